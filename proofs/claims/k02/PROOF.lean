import PyProof.Rows.All
import Wide.All
import OpenK.AllK
import Wide.FinOn
import HandS.ForMost
import HandS.ForExc
import HandS.Lambda
import HandS.Gcd
import HandS.Wide
import HandS.WideBits
import HandS.TryMany
import HandS.Walk
import HandS.TupMul
import HandS.TupAny
import HandS.IsInst
import HandS.TupLe
import KE.GoesNew
import HandS.Nested
import HandS.Small
import HandS.Style
import HandS.ExcOwn
import HandS.Defaults
import HandS.ExcInit
import HandS.ExcField
import HandS.HeadHook4
import HandS.HeadWalk
import HandS.Head0
import HandS.Head1
import HandS.Head2
import HandS.Head3
import HandS.HeadEnd
import HandS.NestedK
import PyProof.ReprLen
import PySem.Challenge.RW_loanpapers_k02_ratios
set_option Elab.async false
-- V1
section
set_option Elab.async false
set_option linter.all false
set_option maxRecDepth 100000
set_option maxHeartbeats 2000000
/-! The value layer: data, states, what a value stands for. -/
namespace VL
open PySem PySem.Spec PyProof.Rows
open L2 hiding St
abbrev St := L2.St

/-- data, without the heap -/
inductive D where
  | non | bl (b : Bool) | int (i : Int) | str (x : Str)
  | tup (xs : List D) | lst (xs : List D)
  | dct (kvs : List (Str × D))
  | obj (c : Str) (fs : List (Str × D))
  | fn (x : Str)
  | clo (n : Nat) (cap : List (Str × D))
  | pen
  deriving Inhabited

/-- an error in flight: its class by name, its fields -/
structure XD where
  cls : Str
  fs : List (Str × D)

/-- what an expression hands on: data that no one will change; a list or dict that a name of the frame owns; a new one that no one owns yet -/
inductive R where
  | val (d : D) | own (d : D) | frs (d : D)
def R.d : R → D
  | .val d => d
  | .own d => d
  | .frs d => d

/-- computations: what is wanted of the value and the budget behind it, what is wanted of an error, the budget -/
abbrev M (α : Type) := (α → Nat → Prop) → (XD → Nat → Prop) → Nat → Prop
def ret {α : Type} (a : α) : M α := fun P _ b => P a b
def bnd {α β : Type} (m : M α) (k : α → M β) : M β := fun P E b => m (fun a b' => k a P E b') E b
def fail {α : Type} : M α := fun _ _ _ => False
def thr {α : Type} (x : XD) : M α := fun _ E b => E x b
/-- a side condition -/
def need {α : Type} (c : Prop) (m : M α) : M α := fun P E b => c ∧ m P E b

abbrev Env' := List (Option R)

/-- what is fixed through a law: the written part, the names of functions and classes, the pen's place, the tables of code objects, the frame's own cells where it makes lambdas, what the captured cells of others hold -/
structure Th where
  K : PySem.W.Frag
  glb : Str → Option Addr
  pa : Option Addr
  pc : Addr
  tabs : List (Addr × Str)
  cells : Option (List (Str × Addr))
  cm : Addr → Option D
  gcdOn : Bool
  ins : List Str
  flds : List Str
  lam : Nat → Option (Arguments × Expr × Scope)

/-- a tuple of the written part -/
def KTup (K : PySem.W.Frag) (a : Addr) (xs : List V) : Prop :=
  ∃ (o : Obj) (its : Array Value) (n : Nat), K.lookup a = some o ∧ o.cls = .type "tuple" ∧ o.data = .seq its n ∧ its.size ≤ sizeLine ∧ Vals xs its.toList

/-- the object of a lambda: its text, its cells -/
def LamO (f : Addr) (qual : Str) (params : Arguments) (body : Expr) (scope : Scope) (cl : List (Str × Addr)) (c' : Addr) : HO :=
  .ext fun h => ∃ pm ctv, h.get? f = some (PySem.W.kla_obj "<lambda>" qual params body scope cl pm c' ctv)

/-- no cell has two names -/
def InjL (scope : Scope) (cl : List (Str × Addr)) : Prop := (∀ x y c, cl.lookup x = some c → cl.lookup y = some c → x = y) ∧ ∀ y c, cl.lookup y = some c → (y, NameKind.free) ∈ scope.names
/-- what a lambda captured: cells of the frame that makes it, or cells whose content is known -/
def CloOk (Θ : Th) (scope : Scope) (cl : List (Str × Addr)) (cap : List (Str × D)) : Prop :=
  (cap = [] ∧ ∃ cs, Θ.cells = some cs ∧ ∀ y ∈ scope.names, y.2 = .free → cl.lookup y.1 = cs.lookup y.1) ∨
    (Θ.cells = none ∧ ∀ y ∈ scope.names, y.2 = .free → ∃ c d, cl.lookup y.1 = some c ∧ cap.lookup y.1 = some d ∧ Θ.cm c = some d)
mutual
/-- the value v stands for d in H; F: the places that stay as they are -/
inductive Rep (Θ : Th) (F : Addr → Prop) (H : Hp) : V → D → Prop
  | non : Rep Θ F H .non .non
  | bl (b : Bool) : Rep Θ F H (.bl b) (.bl b)
  | int (i : Int) : Rep Θ F H (.int i) (.int i)
  | str (x : Str) : Rep Θ F H (.str x) (.str x)
  | tup {a : Addr} {vs : List V} {ds : List D} : F a → H a = some (.tup vs) → RepL Θ F H vs ds → Rep Θ F H (.ref a) (.tup ds)
  | ktup {a : Addr} {vs : List V} {ds : List D} : KTup Θ.K a vs → RepL Θ F H vs ds → Rep Θ F H (.ref a) (.tup ds)
  | lst {a : Addr} {vs : List V} {ds : List D} : F a → H a = some (.lst vs) → RepL Θ F H vs ds → Rep Θ F H (.ref a) (.lst ds)
  | dct {a : Addr} {kvs : List (Key × V)} {ds : List (Str × D)} : F a → H a = some (.dK kvs) → RepK Θ F H kvs ds → Rep Θ F H (.ref a) (.dct ds)
  | obj {a C dx : Addr} {c : Str} {fs : List (Str × V)} {ds : List (Str × D)} : F a → H a = some (.ins C dx fs) → (c ∈ Θ.ins ∧ Θ.glb c = some C) → RepF Θ F H fs ds → Rep Θ F H (.ref a) (.obj c ds)
  | fn {a : Addr} {x : Str} : Θ.glb x = some a → Rep Θ F H (.ref a) (.fn x)
  | pen {a : Addr} : Θ.pa = some a → Rep Θ F H (.ref a) .pen
  | clo {f c' : Addr} {qual : Str} {params : Arguments} {body : Expr} {scope : Scope} {n : Nat} {cl : List (Str × Addr)} {cap : List (Str × D)} : F f → H f = some (LamO f qual params body scope cl c') → F c' → H c' = some (LamX.CodeO c' qual) →
      Θ.lam n = some (params, body, scope) → InjL scope cl → CloOk Θ scope cl cap → Rep Θ F H (.ref f) (.clo n cap)
inductive RepL (Θ : Th) (F : Addr → Prop) (H : Hp) : List V → List D → Prop
  | nil : RepL Θ F H [] []
  | cons {v : V} {d : D} {vs : List V} {ds : List D} : Rep Θ F H v d → RepL Θ F H vs ds → RepL Θ F H (v :: vs) (d :: ds)
inductive RepK (Θ : Th) (F : Addr → Prop) (H : Hp) : List (Key × V) → List (Str × D) → Prop
  | nil : RepK Θ F H [] []
  | cons {k : Str} {v : V} {d : D} {vs : List (Key × V)} {ds : List (Str × D)} : Rep Θ F H v d → RepK Θ F H vs ds → RepK Θ F H ((.inr k, v) :: vs) ((k, d) :: ds)
inductive RepF (Θ : Th) (F : Addr → Prop) (H : Hp) : List (Str × V) → List (Str × D) → Prop
  | nil : RepF Θ F H [] []
  | cons {k : Str} {v : V} {d : D} {vs : List (Str × V)} {ds : List (Str × D)} : Rep Θ F H v d → RepF Θ F H vs ds → RepF Θ F H ((k, v) :: vs) ((k, d) :: ds)
end

section
variable {Θ : Th} {F F' : Addr → Prop} {H H' : Hp}
mutual
theorem Rep.mono (hf : ∀ a, F a → F' a) (hh : ∀ a o, F a → H a = some o → H' a = some o) : ∀ {v : V} {d : D}, Rep Θ F H v d → Rep Θ F' H' v d
  | _, _, .non => .non
  | _, _, .bl b => .bl b
  | _, _, .int i => .int i
  | _, _, .str x => .str x
  | _, _, .tup h1 h2 h3 => .tup (hf _ h1) (hh _ _ h1 h2) (RepL.mono hf hh h3)
  | _, _, .ktup h1 h3 => .ktup h1 (RepL.mono hf hh h3)
  | _, _, .lst h1 h2 h3 => .lst (hf _ h1) (hh _ _ h1 h2) (RepL.mono hf hh h3)
  | _, _, .dct h1 h2 h3 => .dct (hf _ h1) (hh _ _ h1 h2) (RepK.mono hf hh h3)
  | _, _, .obj h1 h2 h3 h4 => .obj (hf _ h1) (hh _ _ h1 h2) h3 (RepF.mono hf hh h4)
  | _, _, .fn h => .fn h
  | _, _, .pen h => .pen h
  | _, _, .clo h1 h2 h3 h4 h5 h6 h7 => .clo (hf _ h1) (hh _ _ h1 h2) (hf _ h3) (hh _ _ h3 h4) h5 h6 h7
theorem RepL.mono (hf : ∀ a, F a → F' a) (hh : ∀ a o, F a → H a = some o → H' a = some o) : ∀ {v : List V} {d : List D}, RepL Θ F H v d → RepL Θ F' H' v d
  | _, _, .nil => .nil
  | _, _, .cons h1 h2 => .cons (Rep.mono hf hh h1) (RepL.mono hf hh h2)
theorem RepK.mono (hf : ∀ a, F a → F' a) (hh : ∀ a o, F a → H a = some o → H' a = some o) : ∀ {v : List (Key × V)} {d : List (Str × D)}, RepK Θ F H v d → RepK Θ F' H' v d
  | _, _, .nil => .nil
  | _, _, .cons h1 h2 => .cons (Rep.mono hf hh h1) (RepK.mono hf hh h2)
theorem RepF.mono (hf : ∀ a, F a → F' a) (hh : ∀ a o, F a → H a = some o → H' a = some o) : ∀ {v : List (Str × V)} {d : List (Str × D)}, RepF Θ F H v d → RepF Θ F' H' v d
  | _, _, .nil => .nil
  | _, _, .cons h1 h2 => .cons (Rep.mono hf hh h1) (RepF.mono hf hh h2)
end
theorem RepL.length {vs : List V} {ds : List D} (h : RepL Θ F H vs ds) : vs.length = ds.length := by
  induction ds generalizing vs with
  | nil => cases h; rfl
  | cons d ds ih => cases h with | cons a b => rw [List.length_cons, List.length_cons, ih b]
theorem RepL.get {vs : List V} {ds : List D} {i : Nat} {d : D} (h : RepL Θ F H vs ds) (e : ds[i]? = some d) : ∃ v, vs[i]? = some v ∧ Rep Θ F H v d := by
  induction ds generalizing vs i with
  | nil => simp at e
  | cons x xs ih =>
    cases h with
    | cons a b =>
      cases i with
      | zero => simp at e; subst e; exact ⟨_, rfl, a⟩
      | succ i => simpa using ih b (by simpa using e)
theorem RepL.get' {vs : List V} {ds : List D} {i : Nat} {v : V} (h : RepL Θ F H vs ds) (e : vs[i]? = some v) : ∃ d, ds[i]? = some d ∧ Rep Θ F H v d := by
  induction vs generalizing ds i with
  | nil => simp at e
  | cons x xs ih =>
    cases h with
    | cons a b =>
      cases i with
      | zero => simp at e; subst e; exact ⟨_, rfl, a⟩
      | succ i => simpa using ih b (by simpa using e)
theorem RepL.append {vs ws : List V} {ds es : List D} (h : RepL Θ F H vs ds) (g : RepL Θ F H ws es) : RepL Θ F H (vs ++ ws) (ds ++ es) := by
  induction ds generalizing vs with
  | nil => cases h; exact g
  | cons d ds ih => cases h with | cons a b => exact .cons a (ih b)
theorem RepL.set {vs : List V} {ds : List D} {v : V} {d : D} (j : Nat) (h : RepL Θ F H vs ds) (g : Rep Θ F H v d) : RepL Θ F H (vs.set j v) (ds.set j d) := by
  induction ds generalizing vs j with
  | nil => cases h; exact .nil
  | cons x ds ih =>
    cases h with
    | cons a b =>
      cases j with
      | zero => exact .cons g b
      | succ j => exact .cons a (ih j b)
theorem RepL.take {vs : List V} {ds : List D} (n : Nat) (h : RepL Θ F H vs ds) : RepL Θ F H (vs.take n) (ds.take n) := by
  induction ds generalizing vs n with
  | nil => cases h; simp; exact .nil
  | cons x ds ih =>
    cases h with
    | cons a b =>
      cases n with
      | zero => exact .nil
      | succ n => exact .cons a (ih n b)
theorem RepL.drop {vs : List V} {ds : List D} (n : Nat) (h : RepL Θ F H vs ds) : RepL Θ F H (vs.drop n) (ds.drop n) := by
  induction ds generalizing vs n with
  | nil => cases h; simp; exact .nil
  | cons x ds ih =>
    cases h with
    | cons a b =>
      cases n with
      | zero => exact .cons a b
      | succ n => exact ih n b
theorem RepL.eraseIdx {vs : List V} {ds : List D} (n : Nat) (h : RepL Θ F H vs ds) : RepL Θ F H (vs.eraseIdx n) (ds.eraseIdx n) := by
  induction ds generalizing vs n with
  | nil => cases h; exact .nil
  | cons x ds ih =>
    cases h with
    | cons a b =>
      cases n with
      | zero => exact b
      | succ n => exact .cons a (ih n b)
theorem RepL.rep {vs : List V} {ds : List D} (h : RepL Θ F H vs ds) (k : Nat) : RepL Θ F H (List.replicate k vs).flatten (List.replicate k ds).flatten := by
  induction k with
  | zero => exact .nil
  | succ k ih => rw [List.replicate_succ, List.replicate_succ]; exact h.append ih
end

/-- the pen's dict at p, its cells at cl, with a budget left for the draws -/
def PenOk (cl : Addr) (b : Nat) (H : Hp) (p : Addr) : Prop :=
  ∃ (ns : List Int) (at_ dg ct fo : Int), H p = some (.dK [(.inr "cells", .ref cl), (.inr "at", .int at_), (.inr "digits", .int dg), (.inr "count", .int ct), (.inr "fold", .int fo)]) ∧
    H cl = some (.lst (ns.map V.int)) ∧ 0 ≤ at_ ∧ 0 ≤ dg ∧ 0 ≤ ct ∧ ct + b ≤ 2 ^ 48 ∧ 0 ≤ fo ∧ fo < 2 ^ 32

/-- no table -/
def NoTab (o : HO) : Prop := ∀ ps, o ≠ .tbl ps
/-- from one state to a later one -/
structure Ext (Θ : Th) (F : Addr → Prop) (b : Nat) (H : Hp) (F' : Addr → Prop) (b' : Nat) (H' : Hp) : Prop where
  f : ∀ a, F a → F' a
  h : ∀ a o, H a = some o → Θ.pa ≠ some a → NoTab o → H' a = some o
  n : ∀ a, F' a → F a ∨ ((H a = none ∨ ∃ q, H a = some (LamX.CodeO a q)) ∧ ∃ o, H' a = some o ∧ NoTab o)
  p : ∀ a, Θ.pa = some a → PenOk Θ.pc b H a → PenOk Θ.pc b' H' a
  t : LamX.Tabs Θ.tabs H → LamX.Tabs Θ.tabs H'
  x : ∀ a o, H a = some o → ∃ o', H' a = some o'
  tt : ∀ a ps, H a = some (.tbl ps) → ∃ ps', H' a = some (.tbl ps')
  b : b' ≤ b

/-- a cell of others: locked, its content known -/
def CellFix (Θ : Th) (F : Addr → Prop) (H : Hp) (c : Addr) (d : D) : Prop :=
  F c ∧ ∃ (oc : Obj) (u : Value) (v : V), H c = some (.frz oc (.ext fun h => ∃ o, h.get? c = some o)) ∧ oc.data = .cell (some u) ∧ RelV v u ∧ Rep Θ F H v d
/-- the state is sound -/
structure Wd (Θ : Th) (F : Addr → Prop) (b : Nat) (H : Hp) : Prop where
  f : ∀ a, F a → ∃ o, H a = some o ∧ NoTab o
  p : ∀ a, Θ.pa = some a → PenOk Θ.pc b H a ∧ ¬ F a
  tb : LamX.Tabs Θ.tabs H
  cm : ∀ c d, Θ.cm c = some d → CellFix Θ F H c d

section
variable {Θ : Th} {F F' F2 : Addr → Prop} {H H' H2 : Hp} {b b' b2 : Nat}
theorem noTab_lst {xs : List V} : NoTab (.lst xs) := fun _ z => by cases z
theorem noTab_tup {xs : List V} : NoTab (.tup xs) := fun _ z => by cases z
theorem noTab_dK {xs : List (Key × V)} : NoTab (.dK xs) := fun _ z => by cases z
theorem noTab_ins {C dx : Addr} {fs : List (Str × V)} : NoTab (.ins C dx fs) := fun _ z => by cases z
theorem noTab_xd {fs : List (Str × V)} : NoTab (.xd fs) := fun _ z => by cases z
theorem new_no {a : Addr} {o : HO} (n : H a = none ∨ ∃ q, H a = some (LamX.CodeO a q)) (e : H a = some o) (hc : ∀ q, o ≠ LamX.CodeO a q) : False := by
  rcases n with n | ⟨q, n⟩
  · rw [n] at e; cases e
  · rw [n] at e; exact hc q (Option.some.inj e).symm
theorem Ext.refl : Ext Θ F b H F b H := ⟨fun _ h => h, fun _ _ h _ _ => h, fun _ h => .inl h, fun _ _ h => h, fun h => h, fun _ o h => ⟨o, h⟩, fun _ ps h => ⟨ps, h⟩, Nat.le_refl _⟩
theorem Ext.back (x : Ext Θ F b H F' b' H') {a : Addr} (h : H' a = none) : H a = none := by
  cases q : H a with
  | none => rfl
  | some o =>
    obtain ⟨o', e⟩ := x.x a o q
    rw [h] at e; cases e
theorem Wd.ext (w : Wd Θ F b H) (x : Ext Θ F b H F' b' H') : Wd Θ F' b' H' where
  f := fun a h => by
    rcases x.n a h with h | ⟨_, h⟩
    · obtain ⟨o, e, n⟩ := w.f a h
      exact ⟨o, x.h a o e (fun z => (w.p a z).2 h) n, n⟩
    · exact h
  p := fun a e => by
    obtain ⟨p, nf⟩ := w.p a e
    refine ⟨x.p a e p, fun h => ?_⟩
    rcases x.n a h with h | ⟨h, _⟩
    · exact nf h
    · obtain ⟨_, _, _, _, _, e, _⟩ := p
      exact new_no h e fun q z => by cases z
  tb := x.t w.tb
  cm := fun c d e => by
    have keep : ∀ a o, F a → H a = some o → H' a = some o := fun a o hf e => by
      obtain ⟨o', e', n⟩ := w.f a hf
      rw [e] at e'; cases e'
      exact x.h a o e (fun z => (w.p a z).2 hf) n
    obtain ⟨h1, oc, u, v, h2, h3, h4, h5⟩ := w.cm c d e
    exact ⟨x.f c h1, oc, u, v, keep _ _ h1 h2, h3, h4, h5.mono x.f keep⟩
theorem Ext.trans (x : Ext Θ F b H F' b' H') (y : Ext Θ F' b' H' F2 b2 H2) (w : Wd Θ F b H) : Ext Θ F b H F2 b2 H2 where
  f := fun a h => y.f a (x.f a h)
  h := fun a o h1 h2 h3 => y.h a o (x.h a o h1 h2 h3) h2 h3
  n := fun a h => by
    rcases y.n a h with h | ⟨h, q⟩
    · rcases x.n a h with h | ⟨h, o, e, n⟩
      · exact .inl h
      · refine .inr ⟨h, o, y.h a o e (fun z => ?_) n, n⟩
        obtain ⟨_, _, _, _, _, q, _⟩ := (w.p a z).1
        exact new_no h q fun q z => by cases z
    · rcases h with h | ⟨qn, h⟩
      · exact .inr ⟨.inl (x.back h), q⟩
      · refine .inr ⟨?_, q⟩
        cases e : H a with
        | none => exact .inl rfl
        | some o =>
          refine .inr ⟨qn, ?_⟩
          have nt : NoTab o := fun ps z => by
            rw [z] at e
            obtain ⟨ps', e'⟩ := x.tt a ps e
            rw [h] at e'
            exact LamX.codeO_ne ps' (Option.some.inj e')
          have np : Θ.pa ≠ some a := fun z => by
            obtain ⟨_, _, _, _, _, e', _⟩ := x.p a z (w.p a z).1
            rw [h] at e'; cases (Option.some.inj e')
          have := x.h a o e np nt
          rw [h] at this
          exact this.symm
  p := fun a e h => y.p a e (x.p a e h)
  t := fun h => y.t (x.t h)
  x := fun a o h => by
    obtain ⟨o', e⟩ := x.x a o h
    exact y.x a o' e
  tt := fun a o h => by
    obtain ⟨o', e⟩ := x.tt a o h
    exact y.tt a o' e
  b := Nat.le_trans y.b x.b
/-- what stays -/
theorem Ext.keep (x : Ext Θ F b H F' b' H') (w : Wd Θ F b H) : ∀ a o, F a → H a = some o → H' a = some o := fun a o hf e => by
  obtain ⟨o', e', n⟩ := w.f a hf
  rw [e] at e'; cases e'
  exact x.h a o e (fun z => (w.p a z).2 hf) n
theorem Rep.ext {v : V} {d : D} (r : Rep Θ F H v d) (x : Ext Θ F b H F' b' H') (w : Wd Θ F b H) : Rep Θ F' H' v d := r.mono x.f (x.keep w)
theorem RepL.ext {v : List V} {d : List D} (r : RepL Θ F H v d) (x : Ext Θ F b H F' b' H') (w : Wd Θ F b H) : RepL Θ F' H' v d := r.mono x.f (x.keep w)
theorem RepK.ext {v : List (Key × V)} {d : List (Str × D)} (r : RepK Θ F H v d) (x : Ext Θ F b H F' b' H') (w : Wd Θ F b H) : RepK Θ F' H' v d := r.mono x.f (x.keep w)
theorem RepF.ext {v : List (Str × V)} {d : List (Str × D)} (r : RepF Θ F H v d) (x : Ext Θ F b H F' b' H') (w : Wd Θ F b H) : RepF Θ F' H' v d := r.mono x.f (x.keep w)

/-- a new object, that stays as it is from now on -/
theorem Ext.new {p : Addr} {o : HO} (hp : H p = none) (n : NoTab o) (w : Wd Θ F b H) : Ext Θ F b H (fun a => F a ∨ a = p) b (upd H p o) where
  f := fun _ h => .inl h
  h := fun a u e _ _ => by rw [upd_ne (ne_of_none e hp)]; exact e
  n := fun a h => by
    rcases h with h | h
    · exact .inl h
    · subst h; exact .inr ⟨.inl hp, o, upd_same, n⟩
  p := fun a e h => by
    obtain ⟨ns, x1, x2, x3, x4, e1, e2, r⟩ := h
    exact ⟨ns, x1, x2, x3, x4, by rw [upd_ne (ne_of_none e1 hp)]; exact e1, by rw [upd_ne (ne_of_none e2 hp)]; exact e2, r⟩
  t := fun h => h.ext fun a u e => by rw [upd_ne (ne_of_none e hp)]; exact e
  x := fun a u e => ⟨u, by rw [upd_ne (ne_of_none e hp)]; exact e⟩
  tt := fun a u e => ⟨u, by rw [upd_ne (ne_of_none e hp)]; exact e⟩
  b := Nat.le_refl _
/-- a new object, not yet stayed -/
theorem Ext.new' {p : Addr} {o : HO} (hp : H p = none) : Ext Θ F b H F b (upd H p o) where
  f := fun _ h => h
  h := fun a u e _ _ => by rw [upd_ne (ne_of_none e hp)]; exact e
  n := fun a h => .inl h
  p := fun a e h => by
    obtain ⟨ns, x1, x2, x3, x4, e1, e2, r⟩ := h
    exact ⟨ns, x1, x2, x3, x4, by rw [upd_ne (ne_of_none e1 hp)]; exact e1, by rw [upd_ne (ne_of_none e2 hp)]; exact e2, r⟩
  t := fun h => h.ext fun a u e => by rw [upd_ne (ne_of_none e hp)]; exact e
  x := fun a u e => ⟨u, by rw [upd_ne (ne_of_none e hp)]; exact e⟩
  tt := fun a u e => ⟨u, by rw [upd_ne (ne_of_none e hp)]; exact e⟩
  b := Nat.le_refl _
/-- an object that came behind H stays from now on -/
theorem Ext.fix {p : Addr} {o : HO} (x : Ext Θ F b H F' b' H') (hp : H p = none) (e : H' p = some o) (n : NoTab o) : Ext Θ F b H (fun a => F' a ∨ a = p) b' H' :=
  { x with
    f := fun a h => .inl (x.f a h)
    n := fun a h => by
      rcases h with h | h
      · exact x.n a h
      · subst h; exact .inr ⟨.inl hp, o, e, n⟩ }

/-- what a list or a dict at a holds -/
def Cont (Θ : Th) (F : Addr → Prop) (H : Hp) (a : Addr) : D → Prop
  | .lst ds => ∃ vs, H a = some (.lst vs) ∧ RepL Θ F H vs ds
  | .dct ds => ∃ kvs, H a = some (.dK kvs) ∧ RepK Θ F H kvs ds
  | _ => False
theorem Cont.there {a : Addr} {d : D} (c : Cont Θ F H a d) : ∃ o, H a = some o ∧ NoTab o := by
  cases d with
  | lst ds => obtain ⟨vs, e, _⟩ := c; exact ⟨_, e, noTab_lst⟩
  | dct ds => obtain ⟨vs, e, _⟩ := c; exact ⟨_, e, noTab_dK⟩
  | _ => exact c.elim
theorem Cont.mono {a : Addr} {d : D} (c : Cont Θ F H a d) (hf : ∀ a, F a → F' a) (hh : ∀ a o, F a → H a = some o → H' a = some o) (he : ∀ o, H a = some o → H' a = some o) : Cont Θ F' H' a d := by
  cases d with
  | lst ds => obtain ⟨vs, e, r⟩ := c; exact ⟨vs, he _ e, r.mono hf hh⟩
  | dct ds => obtain ⟨vs, e, r⟩ := c; exact ⟨vs, he _ e, r.mono hf hh⟩
  | _ => exact c.elim
theorem Cont.ext {a : Addr} {d : D} (c : Cont Θ F H a d) (x : Ext Θ F b H F' b' H') (w : Wd Θ F b H) (hp : Θ.pa ≠ some a) : Cont Θ F' H' a d :=
  c.mono x.f (x.keep w) fun o e => by
    obtain ⟨o', e', n⟩ := c.there
    rw [e] at e'; cases e'
    exact x.h a o e hp n
theorem Cont.rep {a : Addr} {d : D} (c : Cont Θ F H a d) (hf : F a) : Rep Θ F H (.ref a) d := by
  cases d with
  | lst ds => obtain ⟨vs, e, r⟩ := c; exact .lst hf e r
  | dct ds => obtain ⟨vs, e, r⟩ := c; exact .dct hf e r
  | _ => exact c.elim

theorem Cont.noCode {a : Addr} {d : D} {o : HO} (c : Cont Θ F H a d) (h : H a = some o) : ∀ c q, o ≠ LamX.CodeO c q := fun c' q z => by
  cases d with
  | lst ds => obtain ⟨vs, e, _⟩ := c; rw [e] at h; cases h; cases z
  | dct ds => obtain ⟨vs, e, _⟩ := c; rw [e] at h; cases h; cases z
  | _ => exact c.elim
/-- the value of an expression: H the heap ahead of it -/
def RepR (Θ : Th) (H : Hp) (F' : Addr → Prop) (H' : Hp) (v : V) : R → Prop
  | .val d => Rep Θ F' H' v d
  | .own d => ∃ a, v = .ref a ∧ ¬ F' a ∧ Θ.pa ≠ some a ∧ Cont Θ F' H' a d
  | .frs d => ∃ a, v = .ref a ∧ ¬ F' a ∧ Θ.pa ≠ some a ∧ H a = none ∧ Cont Θ F' H' a d
/-- later, seen from earlier -/
theorem RepR.ext {v : V} {r : R} {F2 : Addr → Prop} {H2 : Hp} {b2 : Nat} (h : RepR Θ H F' H' v r) (x : Ext Θ F' b' H' F2 b2 H2) (w : Wd Θ F' b' H') : RepR Θ H F2 H2 v r := by
  have nf : ∀ {a d}, ¬ F' a → Cont Θ F' H' a d → ¬ F2 a := fun {a d} n c z => by
    rcases x.n a z with z | ⟨z, _⟩
    · exact n z
    · obtain ⟨o, e, _⟩ := c.there
      exact new_no z e (c.noCode e _)
  cases r with
  | val d => exact Rep.ext h x w
  | own d =>
    obtain ⟨a, e, n, p, c⟩ := h
    exact ⟨a, e, nf n c, p, c.ext x w p⟩
  | frs d =>
    obtain ⟨a, e, n, p, t, c⟩ := h
    exact ⟨a, e, nf n c, p, t, c.ext x w p⟩
/-- a value that may be kept: a new one stays from now on -/
theorem RepR.keep {v : V} {r : R} (h : RepR Θ H F' H' v r) (x : Ext Θ F b H F' b' H') (hr : ∀ d, r ≠ .own d) : ∃ F2, (∀ a, F' a → F2 a) ∧ Ext Θ F b H F2 b' H' ∧ Rep Θ F2 H' v r.d := by
  cases r with
  | val d => exact ⟨F', fun _ z => z, x, h⟩
  | own d => exact absurd rfl (hr d)
  | frs d =>
    obtain ⟨a, e, n, p, t, c⟩ := h
    obtain ⟨o, ho, no⟩ := c.there
    subst e
    exact ⟨fun z => F' z ∨ z = a, fun _ z => .inl z, x.fix t ho no, (c.mono (fun _ z => .inl z) (fun _ _ _ e => e) fun _ e => e).rep (.inr rfl)⟩
theorem Rep.more {v : V} {d : D} (r : Rep Θ F H v d) (hf : ∀ a, F a → F' a) : Rep Θ F' H v d := r.mono hf fun _ _ _ e => e
theorem RepL.more {v : List V} {d : List D} (r : RepL Θ F H v d) (hf : ∀ a, F a → F' a) : RepL Θ F' H v d := r.mono hf fun _ _ _ e => e

/-- what stands at a name. H0: the heap at the def's entry -/
def SlotOk (Θ : Th) (H0 : Hp) (F : Addr → Prop) (H : Hp) (v : V) (r : R) : Prop :=
  match r with
  | .val d => Rep Θ F H v d
  | .own d => ∃ a, v = .ref a ∧ ¬ F a ∧ H0 a = none ∧ Θ.pa ≠ some a ∧ Cont Θ F H a d
  | .frs _ => False
/-- the frame's names -/
structure EnvOk (Θ : Th) (F0 : Addr → Prop) (b0 : Nat) (H0 : Hp) (F : Addr → Prop) (b : Nat) (H : Hp) (σ : VL.St) (ρ : Env') : Prop where
  wd : Wd Θ F b H
  w0 : Wd Θ F0 b0 H0
  en : Ext Θ F0 b0 H0 F b H
  len : ρ.length = σ.length
  sl : ∀ (i : Nat) (r : R), ρ[i]? = some (some r) → ∃ v, σ[i]? = some (some v) ∧ SlotOk Θ H0 F H v r
  ds : ∀ (i j : Nat) (d d' : D) (a : Addr), ρ[i]? = some (some (R.own d)) → ρ[j]? = some (some (R.own d')) → σ[i]? = some (some (V.ref a)) → σ[j]? = some (some (V.ref a)) → i = j
variable {F0 : Addr → Prop} {b0 : Nat} {H0 : Hp} {σ : VL.St} {ρ : Env'}
theorem nf_ext (x : Ext Θ F b H F' b' H') {a : Addr} {o : HO} (n : ¬ F a) (e : H a = some o) (nc : ∀ c q, o ≠ LamX.CodeO c q) : ¬ F' a := fun f => by
  rcases x.n a f with f | ⟨f, _⟩
  · exact n f
  · exact new_no f e (nc a)
theorem SlotOk.ext {v : V} {r : R} (k : SlotOk Θ H0 F H v r) (x : Ext Θ F b H F' b' H') (w : Wd Θ F b H) : SlotOk Θ H0 F' H' v r := by
  cases r with
  | val d => exact Rep.ext k x w
  | own d =>
    obtain ⟨a, ev, n, z, p, c⟩ := k
    obtain ⟨o, ho, _⟩ := c.there
    exact ⟨a, ev, nf_ext x n ho (c.noCode ho), z, p, c.ext x w p⟩
  | frs d => exact k
theorem EnvOk.ext (e : EnvOk Θ F0 b0 H0 F b H σ ρ) (x : Ext Θ F b H F' b' H') : EnvOk Θ F0 b0 H0 F' b' H' σ ρ :=
  ⟨e.wd.ext x, e.w0, e.en.trans x e.w0, e.len, fun i r q => by
    obtain ⟨v, hv, k⟩ := e.sl i r q
    exact ⟨v, hv, k.ext x e.wd⟩, e.ds⟩
/-- a name's value -/
theorem EnvOk.get (e : EnvOk Θ F0 b0 H0 F b H σ ρ) {i : Nat} {r : R} (h : ρ[i]? = some (some r)) : ∃ v, σ[i]? = some (some v) ∧ RepR Θ H F H v r := by
  obtain ⟨v, hv, k⟩ := e.sl i r h
  refine ⟨v, hv, ?_⟩
  cases r with
  | val d => exact k
  | own d =>
    obtain ⟨a, ev, n, z, p, c⟩ := k
    obtain ⟨o, ho, _⟩ := c.there
    exact ⟨a, ev, n, p, c⟩
  | frs d => exact k.elim
/-- how a name takes a value: data, or a new list or dict that it owns from now on -/
def R.slot : R → Option R
  | .val d => some (.val d)
  | .frs d => some (.own d)
  | .own _ => none
theorem set_at {α : Type} {l : List α} {i : Nat} {x y : α} (h : (l.set i x)[i]? = some y) : y = x ∧ i < l.length := by
  by_cases hi : i < l.length
  · rw [List.getElem?_set_self hi] at h
    exact ⟨(Option.some.inj h).symm, hi⟩
  · rw [List.getElem?_eq_none (by rw [List.length_set]; omega)] at h
    cases h
theorem EnvOk.set (e : EnvOk Θ F0 b0 H0 F b H σ ρ) (x : Ext Θ F b H F' b' H') {v : V} {r s : R} (h : RepR Θ H F' H' v r) (hs : r.slot = some s) (i : Nat) : EnvOk Θ F0 b0 H0 F' b' H' (σ.set i (some v)) (ρ.set i (some s)) := by
  have e' := e.ext x
  have hlen := e.len
  have new : SlotOk Θ H0 F' H' v s := by
    cases r with
    | val d => cases hs; exact h
    | own d => cases hs
    | frs d =>
      cases hs
      obtain ⟨a, ev, n, p, t, c⟩ := h
      exact ⟨a, ev, n, e.en.back t, p, c⟩
  -- a new owner's place is no one else's
  have apart : ∀ (j : Nat) (d d' : D) (a : Addr), s = R.own d → ρ[j]? = some (some (R.own d')) → σ[j]? = some (some (V.ref a)) → v = V.ref a → False := fun j d d' a es q1 q2 q3 => by
    subst es
    obtain ⟨v', hv, k⟩ := e.sl j _ q1
    obtain ⟨a', ev, _, _, _, c⟩ := k
    rw [q2] at hv; cases hv; cases ev
    obtain ⟨o, ho, _⟩ := c.there
    cases r with
    | val d => cases hs
    | own d => cases hs
    | frs d =>
      obtain ⟨a2, ev2, _, _, t, _⟩ := h
      rw [ev2] at q3; cases q3
      rw [ho] at t; cases t
  refine ⟨e'.wd, e'.w0, e'.en, by rw [List.length_set, List.length_set]; exact e.len, fun j r' q => ?_, fun j k d d' a q1 q2 q3 q4 => ?_⟩
  · by_cases hj : i = j
    · subst hj
      obtain ⟨q1, q2⟩ := set_at q
      cases q1
      exact ⟨v, List.getElem?_set_self (by omega), new⟩
    · rw [List.getElem?_set_ne hj] at q
      rw [List.getElem?_set_ne hj]
      exact e'.sl j r' q
  · by_cases hj : i = j
    · by_cases hk : i = k
      · exact hj.symm.trans hk
      · subst hj
        rw [List.getElem?_set_ne hk] at q2 q4
        obtain ⟨z1, _⟩ := set_at q1
        obtain ⟨z2, _⟩ := set_at q3
        exact (apart k d d' a (Option.some.inj z1).symm q2 q4 (Option.some.inj z2).symm).elim
    · by_cases hk : i = k
      · subst hk
        rw [List.getElem?_set_ne hj] at q1 q3
        obtain ⟨z1, _⟩ := set_at q2
        obtain ⟨z2, _⟩ := set_at q4
        exact (apart j d' d a (Option.some.inj z1).symm q1 q3 (Option.some.inj z2).symm).elim
      · rw [List.getElem?_set_ne hj] at q1 q3
        rw [List.getElem?_set_ne hk] at q2 q4
        exact e.ds j k d d' a q1 q2 q3 q4
/-- what a name owned stays from now on -/
theorem EnvOk.freeze (e : EnvOk Θ F0 b0 H0 F b H σ ρ) {i : Nat} {d : D} (hi : ρ[i]? = some (some (R.own d))) : ∃ F', (∀ a, F a → F' a) ∧ EnvOk Θ F0 b0 H0 F' b H σ (ρ.set i (some (.val d))) := by
  obtain ⟨v, hv, a, ev, n, z, p, c⟩ := e.sl i _ hi
  subst ev
  obtain ⟨o, ho, no⟩ := c.there
  have hf : ∀ b, F b → (fun b => F b ∨ b = a) b := fun _ h => .inl h
  have hi' : i < ρ.length := by
    by_cases q : i < ρ.length
    · exact q
    · rw [List.getElem?_eq_none (by omega)] at hi; cases hi
  refine ⟨fun b => F b ∨ b = a, hf, ⟨fun b h => ?_, fun b h => ?_, e.wd.tb, fun c d h => ?_⟩, e.w0, ?_, by rw [List.length_set]; exact e.len, fun j r q => ?_, fun j k d1 d2 c q1 q2 q3 q4 => ?_⟩
  · rcases h with h | h
    · exact e.wd.f b h
    · subst h; exact ⟨o, ho, no⟩
  · obtain ⟨x1, x2⟩ := e.wd.p b h
    refine ⟨x1, fun q => ?_⟩
    rcases q with q | q
    · exact x2 q
    · subst q; exact p h
  · obtain ⟨h1, oc, u, v, h2, h3, h4, h5⟩ := e.wd.cm c d h
    exact ⟨.inl h1, oc, u, v, h2, h3, h4, Rep.more h5 hf⟩
  · exact e.en.fix z ho no
  · by_cases hj : i = j
    · subst hj
      obtain ⟨q1, _⟩ := set_at q
      cases q1
      exact ⟨_, hv, (c.mono hf (fun _ _ _ e => e) fun _ e => e).rep (.inr rfl)⟩
    · rw [List.getElem?_set_ne hj] at q
      obtain ⟨v', hv', k⟩ := e.sl j r q
      refine ⟨v', hv', ?_⟩
      cases r with
      | val d => exact Rep.more k hf
      | own d' =>
        obtain ⟨a', ev', n', z', p', c'⟩ := k
        refine ⟨a', ev', fun q' => ?_, z', p', c'.mono hf (fun _ _ _ e => e) fun _ e => e⟩
        rcases q' with q' | q'
        · exact n' q'
        · subst q'; subst ev'
          exact hj (e.ds i j d d' _ hi q hv hv')
      | frs d => exact k
  · by_cases hj : i = j
    · subst hj
      obtain ⟨z1, _⟩ := set_at q1
      cases z1
    · by_cases hk : i = k
      · subst hk
        obtain ⟨z1, _⟩ := set_at q2
        cases z1
      · rw [List.getElem?_set_ne hj] at q1
        rw [List.getElem?_set_ne hk] at q2
        exact e.ds j k d1 d2 c q1 q2 q3 q4
theorem tabs_upd {T : List (Addr × Str)} {a : Addr} {o o' : HO} (t : LamX.Tabs T H) (h : H a = some o) (n : NoTab o) (nc : ∀ c q, o ≠ LamX.CodeO c q) : LamX.Tabs T (upd H a o') := fun p hp => by
  obtain ⟨ps, h1, h2, h3⟩ := t p hp
  refine ⟨ps, by rw [upd_ne (fun z => by rw [z, h] at h1; exact n ps (Option.some.inj h1))]; exact h1, h2, fun pos cv hc => ?_⟩
  obtain ⟨c, e1, e2⟩ := h3 pos cv hc
  exact ⟨c, e1, by rw [upd_ne (fun z => by rw [z, h] at e2; exact nc _ _ (Option.some.inj e2))]; exact e2⟩
/-- what a name owns is changed -/
theorem EnvOk.write (e : EnvOk Θ F0 b0 H0 F b H σ ρ) {i : Nat} {d d' : D} {a : Addr} {o : HO} (hi : ρ[i]? = some (some (R.own d))) (hv : σ[i]? = some (some (V.ref a))) (no : NoTab o) (c : Cont Θ F (upd H a o) a d') : EnvOk Θ F0 b0 H0 F b (upd H a o) σ (ρ.set i (some (.own d'))) := by
  obtain ⟨v, hv', a', ev, n, z, p, c0⟩ := e.sl i _ hi
  rw [hv] at hv'; cases hv'; cases ev
  obtain ⟨o0, ho, no0⟩ := c0.there
  have hi' : i < ρ.length := by
    by_cases q : i < ρ.length
    · exact q
    · rw [List.getElem?_eq_none (by omega)] at hi; cases hi
  have nF : ∀ b, F b → b ≠ a := fun b hb q => n (by rw [← q]; exact hb)
  have kp : ∀ b u, F b → H b = some u → upd H a o b = some u := fun b u hb e => by rw [upd_ne (nF b hb)]; exact e
  have n0 : ∀ b u, H0 b = some u → b ≠ a := fun b u h q => by rw [q, z] at h; cases h
  have tb : LamX.Tabs Θ.tabs (upd H a o) := tabs_upd e.wd.tb ho no0 (c0.noCode ho)
  have pn : ∀ q, Θ.pa = some q → PenOk Θ.pc b H q → PenOk Θ.pc b (upd H a o) q := fun q hq h => by
    obtain ⟨_, _, _, _, _, _, y2, _⟩ := (e.w0.p q hq).1
    obtain ⟨ns, x1, x2, x3, x4, e1, e2, r⟩ := h
    exact ⟨ns, x1, x2, x3, x4, by rw [upd_ne (fun y => p (by rw [hq, y]))]; exact e1, by rw [upd_ne (n0 _ _ y2)]; exact e2, r⟩
  have ext0 : Ext Θ F0 b0 H0 F b (upd H a o) := {
    f := e.en.f
    h := fun b u h1 h2 h3 => by rw [upd_ne (n0 b u h1)]; exact e.en.h b u h1 h2 h3
    n := fun b h => by
      rcases e.en.n b h with h' | ⟨h1, u, h2, h3⟩
      · exact .inl h'
      · exact .inr ⟨h1, u, kp b u h h2, h3⟩
    p := fun q hq h => pn q hq (e.en.p q hq h)
    t := fun _ => tb
    x := fun b u h => by rw [upd_ne (n0 b u h)]; exact e.en.x b u h
    tt := fun b u h => by rw [upd_ne (n0 b _ h)]; exact e.en.tt b u h
    b := e.en.b }
  refine ⟨⟨fun b h => ?_, fun q hq => ⟨pn q hq (e.wd.p q hq).1, (e.wd.p q hq).2⟩, tb, fun c d h => ?_⟩, e.w0, ext0, by rw [List.length_set]; exact e.len, fun j r q => ?_, fun j k d1 d2 c q1 q2 q3 q4 => ?_⟩
  · obtain ⟨u, h1, h2⟩ := e.wd.f b h
    exact ⟨u, kp b u h h1, h2⟩
  · obtain ⟨h1, oc, u, v, h2, h3, h4, h5⟩ := e.wd.cm c d h
    exact ⟨h1, oc, u, v, kp _ _ h1 h2, h3, h4, Rep.mono (fun _ h => h) kp h5⟩
  · by_cases hj : i = j
    · subst hj
      obtain ⟨q1, _⟩ := set_at q
      cases q1
      exact ⟨_, hv, a, rfl, n, z, p, c⟩
    · rw [List.getElem?_set_ne hj] at q
      obtain ⟨v', hv', k⟩ := e.sl j r q
      refine ⟨v', hv', ?_⟩
      cases r with
      | val d => exact Rep.mono (fun _ h => h) kp k
      | own d1 =>
        obtain ⟨a1, ev1, n1, z1, p1, c1⟩ := k
        subst ev1
        have na : a1 ≠ a := fun y => hj (e.ds i j d d1 a hi q hv (by rw [← y]; exact hv'))
        exact ⟨a1, rfl, n1, z1, p1, c1.mono (fun _ h => h) kp fun u h => by rw [upd_ne na]; exact h⟩
      | frs d => exact k
  · have at_ : ∀ (j : Nat) (d1 : D), (ρ.set i (some (R.own d')))[j]? = some (some (R.own d1)) → ∃ d2, ρ[j]? = some (some (R.own d2)) := fun j d1 q => by
      by_cases hj : i = j
      · subst hj; exact ⟨d, hi⟩
      · rw [List.getElem?_set_ne hj] at q; exact ⟨d1, q⟩
    obtain ⟨e1, g1⟩ := at_ j d1 q1
    obtain ⟨e2, g2⟩ := at_ k d2 q2
    exact e.ds j k e1 e2 c g1 g2 q3 q4
/-- a name is forgotten -/
theorem EnvOk.forget (e : EnvOk Θ F0 b0 H0 F b H σ ρ) (i : Nat) (x : Option V) : EnvOk Θ F0 b0 H0 F b H (σ.set i x) (ρ.set i none) := by
  refine ⟨e.wd, e.w0, e.en, by rw [List.length_set, List.length_set]; exact e.len, fun j r q => ?_, fun j k d1 d2 c q1 q2 q3 q4 => ?_⟩
  · by_cases hj : i = j
    · subst hj
      obtain ⟨q1, _⟩ := set_at q
      cases q1
    · rw [List.getElem?_set_ne hj] at q ⊢
      exact e.sl j r q
  · by_cases hj : i = j
    · subst hj
      obtain ⟨q5, _⟩ := set_at q1
      cases q5
    · by_cases hk : i = k
      · subst hk
        obtain ⟨q5, _⟩ := set_at q2
        cases q5
      · rw [List.getElem?_set_ne hj] at q1 q3
        rw [List.getElem?_set_ne hk] at q2 q4
        exact e.ds j k d1 d2 c q1 q2 q3 q4
/-- names forgotten, one after another -/
def wipeE (ρ : Env') : List Nat → Env'
  | [] => ρ
  | v :: vs => (wipeE ρ vs).set v none
theorem EnvOk.wipe (e : EnvOk Θ F0 b0 H0 F b H σ ρ) : ∀ vs : List Nat, EnvOk Θ F0 b0 H0 F b H (L2.wipe σ vs) (wipeE ρ vs)
  | [] => e
  | v :: vs => (e.wipe vs).forget v none
end
end VL
end
-- V2
section
set_option Elab.async false
set_option linter.all false
set_option maxRecDepth 100000
set_option maxHeartbeats 2000000
/-! The small language: its terms, what they compute. -/
namespace VL
open PySem PySem.Spec PyProof.Rows
open L2 hiding St

/-- what may stand as the second argument of isinstance -/
inductive TyN where
  | ty (n : String) | cls (c : Str)
  deriving DecidableEq
/-- targets -/
inductive Tg where
  | var (i : Nat) | tup (is : List Nat)
/-- what is walked -/
inductive Ik where
  | seq | rng | rng2 | enum | zip
  deriving DecidableEq
/-- built-in functions of data -/
inductive Bi where
  | len | tuple | list | all | any | int | abs | repr | gcd | str | bits
  deriving DecidableEq

inductive E where
  | lit (d : D)
  | var (i : Nat)
  | glo (x : Str) (d : D)
  | bin (op : Operator) (a b : E)
  | neg (a : E) | not (a : E)
  | and (es : List E) | or (es : List E)
  | ite (t a b : E)
  | cmp (op : CmpOp) (a b : E)
  | chain (o p : CmpOp) (a b c : E)
  | tup (es : List E) | lst (es : List E)
  | dct (ks : List Str) (es : List E)
  | idx (a i : E)
  | key (a : E) (k : Str)
  | slc (a : E) (lo hi : Option E)
  | fld (a : E) (f : Str)
  | call (x : Str) (m : List D → M R) (es : List E)
  | bi (f : Bi) (a : E) (b : Option E)
  | isi (a : E) (ts : List TyN)
  | comp (elt : E) (tg : Tg) (ik : Ik) (its : List E) (ifs : Option E) (own : List (Str × Nat))
  | lam (n : Nat)
  | callC (x : Str) (m : List D → M R) (es : List E) (caps : List (Str × Nat)) (ns : List Nat)

/-! ### data -/
mutual
/-- as the library's data: none for what is no plain data -/
def D.py : D → Option PyData
  | .non => some .none
  | .bl b => some (.bool b)
  | .int i => some (.int i)
  | .str x => some (.str x)
  | .tup xs => (D.pys xs).map .tuple
  | .lst xs => (D.pys xs).map .list
  | _ => none
def D.pys : List D → Option (List PyData)
  | [] => some []
  | x :: xs => match D.py x, D.pys xs with
    | some a, some l => some (a :: l)
    | _, _ => none
end
mutual
/-- as the library's data, dicts too -/
def D.pyr : D → Option PyData
  | .non => some .none
  | .bl b => some (.bool b)
  | .int i => some (.int i)
  | .str x => some (.str x)
  | .tup xs => (D.pyrs xs).map .tuple
  | .lst xs => (D.pyrs xs).map .list
  | .dct kvs => (D.pyrk kvs).map .dict
  | _ => none
def D.pyrs : List D → Option (List PyData)
  | [] => some []
  | x :: xs => match D.pyr x, D.pyrs xs with
    | some a, some l => some (a :: l)
    | _, _ => none
def D.pyrk : List (Str × D) → Option (List (PyData × PyData))
  | [] => some []
  | (k, x) :: xs => match D.pyr x, D.pyrk xs with
    | some a, some l => some ((.str k, a) :: l)
    | _, _ => none
end
mutual
/-- no list in it -/
def D.noLst : D → Bool
  | .lst _ => false
  | .tup xs => D.noLsts xs
  | .dct kvs => D.noLstK kvs
  | .obj _ fs => D.noLstK fs
  | _ => true
def D.noLsts : List D → Bool
  | [] => true
  | x :: xs => x.noLst && D.noLsts xs
def D.noLstK : List (Str × D) → Bool
  | [] => true
  | (_, x) :: xs => x.noLst && D.noLstK xs
end
def D.items : D → Option (List D)
  | .tup xs => some xs
  | .lst xs => some xs
  | _ => none
def R.bool (r : R) : M Bool := match r with
  | .val (.bl b) => ret b
  | _ => fail
def D.int? : D → Option Int
  | .int i => some i
  | _ => none

/-! ### operators -/
def intB (op : Operator) (i j : Int) : M R := match op with
  | .Add => ret (.val (.int (i + j)))
  | .Sub => ret (.val (.int (i - j)))
  | .Mult => need (CMulX i j) (ret (.val (.int (i * j))))
  | .FloorDiv => need (j ≠ 0 ∧ j.natAbs.log2 < 9000) (ret (.val (.int (i.fdiv j))))
  | .Mod => need (j ≠ 0) (ret (.val (.int (i.fmod j))))
  | .Pow => need (CPow i j) (ret (.val (.int (i ^ j.toNat))))
  | _ => fail
def binD (op : Operator) (a b : R) : M R := match a.d, b.d with
  | .int i, .int j => intB op i j
  | .lst xs, .lst ys => match op with
    | .Add => need (xs.length + ys.length ≤ sizeLine) (ret (.frs (.lst (xs ++ ys))))
    | _ => fail
  | .tup xs, .tup ys => match op with
    | .Add => need (xs.length + ys.length ≤ sizeLine) (ret (.val (.tup (xs ++ ys))))
    | _ => fail
  | .lst xs, .int k => match op with
    | .Mult => need (-(2 ^ 63) ≤ k ∧ k < 2 ^ 63 ∧ xs.length * k.toNat ≤ sizeLine) (ret (.frs (.lst (List.replicate k.toNat xs).flatten)))
    | _ => fail
  | .tup xs, .int k => match op with
    | .Mult => need (xs ≠ [] ∧ 2 ≤ k ∧ k ≤ 1000 ∧ xs.length ≤ 1000) (ret (.val (.tup (List.replicate k.toNat xs).flatten)))
    | _ => fail
  | .str x, .str y => match op with
    | .Add => need (x.length + y.length ≤ sizeLine) (ret (.val (.str (x ++ y))))
    | _ => fail
  | _, _ => fail
def intC (op : CmpOp) (i j : Int) : Option Bool := match op with
  | .Lt => some (decide (i < j))
  | .LtE => some (decide (i ≤ j))
  | .Gt => some (decide (j < i))
  | .GtE => some (decide (j ≤ i))
  | .Eq => some (decide (i = j))
  | .NotEq => some (!decide (i = j))
  | _ => none
/-- whether plain data, and not too deep -/
def D.flat : D → Bool
  | .non => true
  | .bl _ => true
  | .int _ => true
  | .str _ => true
  | _ => false
def D.vflat : D → V
  | .bl b => .bl b
  | .int i => .int i
  | .str x => .str x
  | _ => .non
def okPy (d : D) (k : PyData → M R) : M R := match d.py with
  | some p => need (SeqAt.shaped p = true) (k p)
  | none => fail
def isNone : D → Bool
  | .non => true
  | _ => false
/-- two texts -/
def strs2 : D → D → Option Bool
  | .str x, .str y => some (decide (x = y))
  | _, _ => none
def cmpD (op : CmpOp) (a b : R) : M R := match op with
  | .Eq => match strs2 a.d b.d with
    | some t => ret (.val (.bl t))
    | none => okPy a.d fun p => okPy b.d fun q => ret (.val (.bl (PyData.eqv p q)))
  | .NotEq => match strs2 a.d b.d with
    | some t => ret (.val (.bl (!t)))
    | none => okPy a.d fun p => okPy b.d fun q => ret (.val (.bl (!PyData.eqv p q)))
  | .Is => match b.d with
    | .non => ret (.val (.bl (isNone a.d)))
    | .bl t => match a.d with
      | .bl u => ret (.val (.bl (decide (u = t))))
      | _ => fail
    | _ => fail
  | .IsNot => match b.d with
    | .non => ret (.val (.bl (!isNone a.d)))
    | .bl t => match a.d with
      | .bl u => ret (.val (.bl (!decide (u = t))))
      | _ => fail
    | _ => fail
  | .In => match b.d.items with
    | some ys => need (a.d.flat = true ∧ ys.all D.flat = true) (ret (.val (.bl (inV a.d.vflat (ys.map D.vflat)))))
    | none => fail
  | .NotIn => match b.d.items with
    | some ys => need (a.d.flat = true ∧ ys.all D.flat = true) (ret (.val (.bl (!inV a.d.vflat (ys.map D.vflat)))))
    | none => fail
  | _ => match a.d, b.d with
    | .int i, .int j => match intC op i j with
      | some t => ret (.val (.bl t))
      | none => fail
    | _, _ => fail
/-- data to be kept: no list that someone owns -/
def R.kept : R → M D
  | .val d => ret d
  | .frs d => ret d
  | .own _ => fail
def keptAll : List R → M (List D)
  | [] => ret []
  | r :: rs => bnd r.kept fun d => bnd (keptAll rs) fun ds => ret (d :: ds)
def optM {α : Type} (o : Option α) : M α := match o with
  | some a => ret a
  | none => fail
def idxD (a i : R) : M R := match a.d.items, i.d with
  | some xs, .int k => match atI xs k with
    | some d => ret (.val d)
    | none => fail
  | _, _ => fail
def keyD (k : Str) (a : R) : M R := match a.d with
  | .dct kvs => match kvs.lookup k with
    | some d => ret (.val d)
    | none => fail
  | _ => fail
def cutD (xs : List D) (lo hi : Option Int) : List D := (xs.drop (HT.sIx xs.length 0 lo)).take (HT.sIx xs.length xs.length hi - HT.sIx xs.length 0 lo)
def slcD (a : R) (lo hi : Option Int) : M R := match a.d with
  | .lst xs => ret (.frs (.lst (cutD xs lo hi)))
  | .tup xs => ret (.val (.tup (cutD xs lo hi)))
  | _ => fail
def fldD (a : R) (f : Str) : M R := match a.d with
  | .obj _ fs => match fs.lookup f with
    | some d => ret (.val d)
    | none => fail
  | _ => fail
/-- the type of data, by name -/
def D.ty : D → TyN
  | .non => .ty "NoneType"
  | .bl _ => .ty "bool"
  | .int _ => .ty "int"
  | .str _ => .ty "str"
  | .tup _ => .ty "tuple"
  | .lst _ => .ty "list"
  | .dct _ => .ty "dict"
  | .pen => .ty "dict"
  | .obj c _ => .cls c
  | .fn _ => .ty "function"
  | .clo _ _ => .ty "function"
def isiB (d : D) (t : TyN) : Bool := decide (d.ty = t) || (decide (d.ty = .ty "bool") && decide (t = .ty "int"))
def D.known : D → Bool
  | .fn _ => false
  | .clo _ _ => false
  | _ => true
def boolsOf : List D → Option (List Bool)
  | [] => some []
  | .bl b :: r => (boolsOf r).map (b :: ·)
  | _ => none
def biD (f : Bi) (a : R) (b : Option R) : M R := match f, b with
  | .len, none => match a.d.items with
    | some xs => ret (.val (.int xs.length))
    | none => fail
  | .tuple, none => match a.d.items with
    | some xs => ret (.val (.tup xs))
    | none => fail
  | .list, none => match a.d.items with
    | some xs => ret (.frs (.lst xs))
    | none => fail
  | .all, none => match a.d with
    | .lst xs => match boolsOf xs with
      | some bs => ret (.val (.bl (bs.all id)))
      | none => fail
    | _ => fail
  | .any, none => match a.d with
    | .lst xs => match boolsOf xs with
      | some bs => ret (.val (.bl (bs.any id)))
      | none => fail
    | _ => fail
  | .int, none => match a.d with
    | .int i => ret (.val (.int i))
    | .bl k => ret (.val (.int (b2i k)))
    | _ => fail
  | .abs, none => match a.d with
    | .int i => ret (.val (.int (if i < 0 then -i else i)))
    | _ => fail
  | .repr, none => match a.d.pyr with
    | some p => need (p.showable = true ∧ p.shown.length ≤ sizeLine ∧ p.depth ≤ 64 ∧ (p.hasDict = false ∨ a.d.noLst = true)) (ret (.val (.str p.shown)))
    | none => fail
  | .str, none => match a.d with
    | .int i => need (i.natAbs.log2 < 1920) (ret (.val (.str (toString i))))
    | _ => fail
  | .bits, none => match a.d with
    | .int i => ret (.val (.int (Builtin.Int.intBits i : Nat)))
    | _ => fail
  | .gcd, some r => match a.d, r.d with
    | .int i, .int j => ret (.val (.int ((Nat.gcd i.natAbs j.natAbs : Nat) : Int)))
    | _, _ => fail
  | _, _ => fail

/-! ### walks -/
def rngD (lo : Int) : Nat → List D
  | 0 => []
  | n + 1 => .int lo :: rngD (lo + 1) n
def enumD (i : Int) : List D → List D
  | [] => []
  | x :: xs => .tup [.int i, x] :: enumD (i + 1) xs
def zipD : List D → List D → List D
  | x :: xs, y :: ys => .tup [x, y] :: zipD xs ys
  | _, _ => []
/-- what is walked, item by item -/
def walkD (k : Ik) (rs : List R) : M (List D) := match k, rs with
  | .seq, [r] => optM r.d.items
  | .rng, [r] => match r.d with
    | .int j => need (-(2 ^ 62) ≤ j ∧ j < 2 ^ 62) (ret (rngD 0 j.toNat))
    | _ => fail
  | .rng2, [r, q] => match r.d, q.d with
    | .int i, .int j => need (-(2 ^ 62) ≤ i ∧ i < 2 ^ 62 ∧ -(2 ^ 62) ≤ j ∧ j < 2 ^ 62) (ret (rngD i (j - i).toNat))
    | _, _ => fail
  | .enum, [r] => match r.d.items with
    | some xs => ret (enumD 0 xs)
    | none => fail
  | .zip, [r, q] => match r.d.items, q.d.items with
    | some xs, some ys => ret (zipD xs ys)
    | _, _ => fail
  | _, _ => fail
def setAll : Env' → List Nat → List D → Option Env'
  | ρ, [], [] => some ρ
  | ρ, i :: is, d :: ds => setAll (ρ.set i (some (.val d))) is ds
  | _, _, _ => none
def tgD (t : Tg) (d : D) (ρ : Env') : M Env' := match t with
  | .var i => ret (ρ.set i (some (.val d)))
  | .tup is => match d with
    | .tup ds => optM (setAll ρ is ds)
    | _ => fail
/-- a comprehension's turns -/
def compD (step : D → M (Option D)) : List D → M (List D)
  | [] => ret []
  | d :: ds => bnd (step d) fun o => bnd (compD step ds) fun r => ret (match o with
    | some x => x :: r
    | none => r)

def getV (ρ : Env') (i : Nat) : M R := match ρ[i]? with
  | some (some r) => ret r
  | _ => fail
def negR (x : R) : M R := match x.d with
  | .int i => ret (.val (.int (-i)))
  | _ => fail
def partR (x : R) : M (Option Int) := match x.d with
  | .int i => ret (some i)
  | _ => fail
def iteM {α : Type} (t : Bool) (a b : M α) : M α := match t with
  | true => a
  | false => b
def tupM (rs : List R) : M R := bnd (keptAll rs) fun ds => need (ds.length ≤ sizeLine) (ret (.val (.tup ds)))
def lstM (rs : List R) : M R := bnd (keptAll rs) fun ds => need (ds.length ≤ sizeLine) (ret (.frs (.lst ds)))
def dctM (ks : List Str) (rs : List R) : M R := bnd (keptAll rs) fun ds => need (ks.length = ds.length) (ret (.frs (.dct (ks.zip ds))))
/-- what a call hands on: data, or a new list or dict -/
def R.out : R → M R
  | .own _ => fail
  | r => ret r
def callM (m : List D → M R) (rs : List R) : M R := bnd (keptAll rs) m
/-- no error goes out of it -/
def quiet {α : Type} (m : M α) : M α := fun P _ b => m P (fun _ _ => False) b
def isiM (ts : List TyN) (x : R) : M R := need (x.d.known = true) (ret (.val (.bl (ts.any (isiB x.d)))))

mutual
def D.noClo : D → Bool
  | .clo _ _ => false
  | .tup xs => D.noClos xs
  | .lst xs => D.noClos xs
  | .dct kvs => D.noCloK kvs
  | .obj _ fs => D.noCloK fs
  | _ => true
def D.noClos : List D → Bool
  | [] => true
  | x :: xs => x.noClo && D.noClos xs
def D.noCloK : List (Str × D) → Bool
  | [] => true
  | (_, x) :: xs => x.noClo && D.noCloK xs
end
/-! ### data: closures take what their names hold -/
mutual
def D.fill (cap : List (Str × D)) : D → D
  | .clo n [] => .clo n cap
  | .tup xs => .tup (D.fills cap xs)
  | .lst xs => .lst (D.fills cap xs)
  | .dct kvs => .dct (D.fillK cap kvs)
  | .obj c fs => .obj c (D.fillK cap fs)
  | d => d
def D.fills (cap : List (Str × D)) : List D → List D
  | [] => []
  | x :: xs => x.fill cap :: D.fills cap xs
def D.fillK (cap : List (Str × D)) : List (Str × D) → List (Str × D)
  | [] => []
  | (k, x) :: xs => (k, x.fill cap) :: D.fillK cap xs
end
mutual
/-- each closure in it -/
def D.allC (p : Nat → Prop) : D → Prop
  | .clo n _ => p n
  | .tup xs => D.allCs p xs
  | .lst xs => D.allCs p xs
  | .dct kvs => D.allCK p kvs
  | .obj _ fs => D.allCK p fs
  | _ => True
def D.allCs (p : Nat → Prop) : List D → Prop
  | [] => True
  | x :: xs => x.allC p ∧ D.allCs p xs
def D.allCK (p : Nat → Prop) : List (Str × D) → Prop
  | [] => True
  | (_, x) :: xs => x.allC p ∧ D.allCK p xs
end
/-- what a computation must do that gets closures -/
def handM (m : List D → M R) (cap : List (Str × D)) (ds : List D) : M R := fun P E b => m (D.fills cap ds) (fun r b' => r.d.noClo = true ∧ P r b') (fun z b' => D.noCloK z.fs = true ∧ E z b') b
/-- what the names hold that are handed on -/
def capOf (ρ : Env') : List (Str × Nat) → Option (List (Str × D))
  | [] => some []
  | (y, i) :: r => match ρ[i]?, capOf ρ r with
    | some (some (.val d)), some l => if d.noClo = true then some ((y, d) :: l) else none
    | _, _ => none
/-- a call from a frame that makes lambdas; ns: those that may be handed on -/
def handC (ns : List Nat) (m : List D → M R) (caps : List (Str × Nat)) (ρ : Env') (ds : List D) : M R := fun P E b => match capOf ρ caps with
  | some cap => D.allCs (fun n => n ∈ ns) ds ∧ handM m cap ds P E b
  | none => False
/-! ### what a term computes -/
mutual
def ev : E → Env' → M R
  | .lit d, _ => ret (.val d)
  | .var i, ρ => getV ρ i
  | .glo _ d, _ => ret (.val d)
  | .bin op a b, ρ => bnd (ev a ρ) fun x => bnd (ev b ρ) fun y => binD op x y
  | .neg a, ρ => bnd (ev a ρ) negR
  | .not a, ρ => bnd (ev a ρ) fun x => bnd x.bool fun t => ret (.val (.bl (!t)))
  | .and es, ρ => evA es ρ
  | .or es, ρ => evO es ρ
  | .ite t a b, ρ => bnd (ev t ρ) fun x => bnd x.bool fun t => iteM t (ev a ρ) (ev b ρ)
  | .cmp op a b, ρ => bnd (ev a ρ) fun x => bnd (ev b ρ) fun y => cmpD op x y
  | .chain o p a b c, ρ => bnd (ev a ρ) fun x => bnd (ev b ρ) fun y => bnd (cmpD o x y) fun t => bnd t.bool fun t => iteM t (bnd (ev c ρ) fun z => cmpD p y z) (ret (.val (.bl false)))
  | .tup es, ρ => bnd (evs es ρ) tupM
  | .lst es, ρ => bnd (evs es ρ) lstM
  | .dct ks es, ρ => bnd (evs es ρ) (dctM ks)
  | .idx a i, ρ => bnd (ev a ρ) fun x => bnd (ev i ρ) fun y => idxD x y
  | .key a k, ρ => bnd (ev a ρ) (keyD k)
  | .slc a lo hi, ρ => bnd (ev a ρ) fun x => bnd (evo lo ρ) fun l => bnd (evo hi ρ) fun h => slcD x l h
  | .fld a f, ρ => bnd (ev a ρ) fun x => fldD x f
  | .call _ m es, ρ => bnd (evs es ρ) (callM m)
  | .bi f a none, ρ => bnd (ev a ρ) fun x => biD f x none
  | .bi f a (some b), ρ => bnd (ev a ρ) fun x => bnd (ev b ρ) fun y => biD f x (some y)
  | .isi a ts, ρ => bnd (ev a ρ) (isiM ts)
  | .comp elt tg ik its ifs own, ρ => bnd (evs its ρ) fun rs => bnd (walkD ik rs) fun ds => need (ds.length ≤ sizeLine) (bnd (compD (fun d => quiet (bnd (tgD tg d (wipeE ρ (own.map (·.2)))) fun ρ1 => bnd (evt ifs ρ1) fun t =>
      iteM t (bnd (ev elt ρ1) fun r => bnd r.kept fun x => ret (some x)) (ret none))) ds) fun xs => ret (.frs (.lst xs)))
  | .lam n, _ => ret (.val (.clo n []))
  | .callC _ m es caps ns, ρ => bnd (evs es ρ) fun rs => bnd (keptAll rs) (handC ns m caps ρ)
def evs : List E → Env' → M (List R)
  | [], _ => ret []
  | e :: es, ρ => bnd (ev e ρ) fun r => bnd (evs es ρ) fun rs => ret (r :: rs)
/-- and, or -/
def evA : List E → Env' → M R
  | [], _ => fail
  | [e], ρ => ev e ρ
  | e :: f :: es, ρ => bnd (ev e ρ) fun x => bnd x.bool fun t => iteM t (evA (f :: es) ρ) (ret (.val (.bl false)))
def evO : List E → Env' → M R
  | [], _ => fail
  | [e], ρ => ev e ρ
  | e :: f :: es, ρ => bnd (ev e ρ) fun x => bnd x.bool fun t => iteM t (ret (.val (.bl true))) (evO (f :: es) ρ)
/-- a part of a slice -/
def evo : Option E → Env' → M (Option Int)
  | none, _ => ret none
  | some e, ρ => bnd (ev e ρ) partR
/-- a comprehension's test -/
def evt : Option E → Env' → M Bool
  | none, _ => ret true
  | some e, ρ => bnd (ev e ρ) fun r => r.bool
end
end VL
end
-- V3
section
set_option Elab.async false
set_option linter.all false
set_option maxRecDepth 100000
set_option maxHeartbeats 4000000
/-! Soundness: a term's value is what the machine comes to. -/
namespace VL
open PySem PySem.Spec PyProof.Rows
open L2 hiding St

/-- the entry of the def -/
structure En where
  F : Addr → Prop
  b : Nat
  H : Hp
/-- an error of the class and the fields -/
def RepX (Θ : Th) (F : Addr → Prop) (H : Hp) (cls : Value) (d : Option Addr) (x : XD) : Prop :=
  ∃ C, cls = .ref C ∧ Θ.glb x.cls = some C ∧ ((d = none ∧ x.fs = []) ∨ ∃ dx fs, d = some dx ∧ H dx = some (.xd fs) ∧ RepF Θ F H fs x.fs)
abbrev EOk (Θ : Th) (e : En) := EnvOk Θ e.F e.b e.H
/-- what is wanted behind an expression: from the state F b H on -/
structure Post (Θ : Th) (W : WX) (σ : St) (Q : VK) (F : Addr → Prop) (b : Nat) (H : Hp) (P : R → Nat → Prop) (E : XD → Nat → Prop) : Prop where
  ok : ∀ r b', P r b' → ∀ v F' H', Ext Θ F b H F' b' H' → RepR Θ H F' H' v r → Q v H'
  ex : ∀ x b', E x b' → ∀ cls d F' H', Ext Θ F b H F' b' H' → RepX Θ F' H' cls d x → W cls d σ H'
/-- the reading of a term -/
def tV (Θ : Th) (e : En) (W : WX) (f : Env' → M R) : TE := fun σ H Q => ∃ F b ρ P E, EOk Θ e F b H σ ρ ∧ f ρ P E b ∧ Post Θ W σ Q F b H P E

/-- a new one is none of the others -/
def ApV (v : V) (r : R) (vs : List V) (rs : List R) : Prop := ∀ a d, r = .frs d → v = .ref a → ∀ (j : Nat) (d2 : D), rs[j]? = some (.frs d2) → vs[j]? ≠ some (.ref a)
inductive RepRs (Θ : Th) (H : Hp) (F' : Addr → Prop) (H' : Hp) : List V → List R → Prop
  | nil : RepRs Θ H F' H' [] []
  | cons {v : V} {r : R} {vs : List V} {rs : List R} : RepR Θ H F' H' v r → RepRs Θ H F' H' vs rs → ApV v r vs rs → RepRs Θ H F' H' (v :: vs) (r :: rs)
def tVs (Θ : Th) (e : En) (W : WX) (f : Env' → M (List R)) : TA := fun σ H Q => ∃ F b ρ P E, EOk Θ e F b H σ ρ ∧ f ρ P E b ∧
  (∀ r b', P r b' → ∀ vs F' H', Ext Θ F b H F' b' H' → RepRs Θ H F' H' vs r → Q vs H') ∧ (∀ x b', E x b' → ∀ cls d F' H', Ext Θ F b H F' b' H' → RepX Θ F' H' cls d x → W cls d σ H')
/-- .. as a test -/
def tVt (Θ : Th) (e : En) (W : WX) (f : Env' → M Bool) : TT := fun σ H Q => ∃ F b ρ P E, EOk Θ e F b H σ ρ ∧ f ρ P E b ∧
  (∀ r b', P r b' → ∀ F' H', Ext Θ F b H F' b' H' → Q r H') ∧ (∀ x b', E x b' → ∀ cls d F' H', Ext Θ F b H F' b' H' → RepX Θ F' H' cls d x → W cls d σ H')

theorem peI {X : Cx} {e : Expr} {t t' : TE} (h : PE X e t) (i : ∀ σ H Q, t' σ H Q → t σ H Q) : PE X e t' := ⟨fun pins s σ H Q I q => h.run pins s σ H Q I (i σ H Q q)⟩
theorem ptI {X : Cx} {e : Expr} {t t' : TT} (h : PT X e t) (i : ∀ σ H Q, t' σ H Q → t σ H Q) : PT X e t' := ⟨fun pins s σ H Q I q => h.run pins s σ H Q I (i σ H Q q)⟩
theorem pwI {X : Cx} {e : Expr} {t t' : TT} (h : PW X e t) (i : ∀ σ H Q, t' σ H Q → t σ H Q) : PW X e t' := ⟨fun wh pins s σ H Q I q => h.run wh pins s σ H Q I (i σ H Q q)⟩
theorem paI {X : Cx} {e : List Expr} {t t' : TA} (h : PA X e t) (i : ∀ σ H Q, t' σ H Q → t σ H Q) : PA X e t' := ⟨fun pos pins s σ H Q I q => h.run pos pins s σ H Q I (i σ H Q q)⟩

section
variable {Θ : Th} {W : WX} {σ : St} {Q : VK} {F F' : Addr → Prop} {b b' : Nat} {H H' : Hp} {P : R → Nat → Prop} {E : XD → Nat → Prop}
/-- later -/
theorem RepX.ext {cls : Value} {d : Option Addr} {x : XD} (h : RepX Θ F H cls d x) : RepX Θ F H cls d x := h
theorem ex_ext {E : XD → Nat → Prop} (w : Wd Θ F b H) (y : Ext Θ F b H F' b' H') (h : ∀ x b', E x b' → ∀ cls d F' H', Ext Θ F b H F' b' H' → RepX Θ F' H' cls d x → W cls d σ H') :
    ∀ x b2, E x b2 → ∀ cls d F2 H2, Ext Θ F' b' H' F2 b2 H2 → RepX Θ F2 H2 cls d x → W cls d σ H2 := fun x b2 hx cls d F2 H2 z r => h x b2 hx cls d F2 H2 (y.trans z w) r
theorem RepR.base {v : V} {r : R} {H0 : Hp} {F0 : Addr → Prop} {b0 b1 : Nat} {F1 : Addr → Prop} (h : RepR Θ H F' H' v r) (y : Ext Θ F0 b0 H0 F1 b1 H) : RepR Θ H0 F' H' v r := by
  cases r with
  | val d => exact h
  | own d => exact h
  | frs d =>
    obtain ⟨a, e, n, p, t, c⟩ := h
    exact ⟨a, e, n, p, y.back t, c⟩
/-- what is seen of a value, whoever owns it -/
def Sees (Θ : Th) (F : Addr → Prop) (H : Hp) (v : V) : D → Prop
  | .non => v = .non
  | .bl b => v = .bl b
  | .int i => v = .int i
  | .str x => v = .str x
  | .tup ds => ∃ a vs, v = .ref a ∧ SqT Θ.K H a vs ∧ RepL Θ F H vs ds
  | .lst ds => ∃ a vs, v = .ref a ∧ H a = some (.lst vs) ∧ RepL Θ F H vs ds
  | .dct ds => ∃ a vs, v = .ref a ∧ H a = some (.dK vs) ∧ RepK Θ F H vs ds
  | .obj c ds => ∃ a C dx fs, v = .ref a ∧ H a = some (.ins C dx fs) ∧ (c ∈ Θ.ins ∧ Θ.glb c = some C) ∧ RepF Θ F H fs ds
  | .fn x => ∃ a, v = .ref a ∧ Θ.glb x = some a
  | .pen => ∃ a, v = .ref a ∧ Θ.pa = some a
  | .clo _ _ => ∃ a, v = .ref a
theorem Rep.sees {v : V} {d : D} (h : Rep Θ F H v d) : Sees Θ F H v d := by
  cases h with
  | non => rfl
  | bl => rfl
  | int => rfl
  | str => rfl
  | tup h1 h2 h3 => exact ⟨_, _, rfl, SqT.of h2, h3⟩
  | ktup h1 h3 => exact ⟨_, _, rfl, .inr h1, h3⟩
  | lst h1 h2 h3 => exact ⟨_, _, rfl, h2, h3⟩
  | dct h1 h2 h3 => exact ⟨_, _, rfl, h2, h3⟩
  | obj h1 h2 h3 h4 => exact ⟨_, _, _, _, rfl, h2, h3, h4⟩
  | fn h => exact ⟨_, rfl, h⟩
  | pen h => exact ⟨_, rfl, h⟩
  | clo => exact ⟨_, rfl⟩
theorem Cont.sees {a : Addr} {d : D} (c : Cont Θ F H a d) : Sees Θ F H (.ref a) d := by
  cases d with
  | lst ds => obtain ⟨vs, e, r⟩ := c; exact ⟨_, _, rfl, e, r⟩
  | dct ds => obtain ⟨vs, e, r⟩ := c; exact ⟨_, _, rfl, e, r⟩
  | _ => exact c.elim
theorem RepR.sees {v : V} {r : R} (h : RepR Θ H F' H' v r) : Sees Θ F' H' v r.d := by
  cases r with
  | val d => exact Rep.sees h
  | own d => obtain ⟨a, e, n, p, c⟩ := h; subst e; exact c.sees
  | frs d => obtain ⟨a, e, n, p, t, c⟩ := h; subst e; exact c.sees
/-- an item walk's source -/
theorem Sees.seq {v : V} {d : D} {xs : List D} (h : Sees Θ F H v d) (hx : d.items = some xs) : ∃ a vs, v = .ref a ∧ (SqL Θ.K H a vs ∨ SqT Θ.K H a vs) ∧ RepL Θ F H vs xs := by
  cases d with
  | tup ds => cases hx; obtain ⟨a, vs, e, h1, h2⟩ := h; exact ⟨a, vs, e, .inr h1, h2⟩
  | lst ds => cases hx; obtain ⟨a, vs, e, h1, h2⟩ := h; exact ⟨a, vs, e, .inl (SqL.of h1), h2⟩
  | _ => cases hx

variable {F2 : Addr → Prop} {b2 : Nat} {H2 : Hp}
theorem Ext.nf (x : Ext Θ F b H F' b' H') {p : Addr} (hp : H' p = none) (w : Wd Θ F' b' H') : ¬ F' p := fun f => by
  obtain ⟨o, e, _⟩ := w.f p f
  rw [hp] at e; cases e
theorem Wd.npa (w : Wd Θ F b H) {p : Addr} (hp : H p = none) : Θ.pa ≠ some p := fun e => by
  obtain ⟨_, _, _, _, _, q, _⟩ := (w.p p e).1
  rw [hp] at q; cases q
/-- a new list, owned by no one -/
theorem Post.frsL (post : Post Θ W σ Q F b H P E) (x : Ext Θ F b H F2 b2 H2) (w0 : Wd Θ F b H) (w : Wd Θ F2 b2 H2) {vs : List V} {xs : List D} (rl : RepL Θ F2 H2 vs xs) (hp : P (.frs (.lst xs)) b2) {p : Addr} (np : H2 p = none) :
    Q (.ref p) (upd H2 p (.lst vs)) := by
  have y : Ext Θ F2 b2 H2 F2 b2 (upd H2 p (.lst vs)) := Ext.new' np
  exact post.ok _ _ hp _ _ _ (x.trans y w0) ⟨p, rfl, x.nf np w, w.npa np, x.back np, vs, upd_same, rl.ext y w⟩
theorem Post.frsD (post : Post Θ W σ Q F b H P E) (x : Ext Θ F b H F2 b2 H2) (w0 : Wd Θ F b H) (w : Wd Θ F2 b2 H2) {vs : List (Key × V)} {xs : List (Str × D)} (rl : RepK Θ F2 H2 vs xs) (hp : P (.frs (.dct xs)) b2) {p : Addr} (np : H2 p = none) :
    Q (.ref p) (upd H2 p (.dK vs)) := by
  have y : Ext Θ F2 b2 H2 F2 b2 (upd H2 p (.dK vs)) := Ext.new' np
  exact post.ok _ _ hp _ _ _ (x.trans y w0) ⟨p, rfl, x.nf np w, w.npa np, x.back np, vs, upd_same, rl.ext y w⟩
/-- a new tuple -/
theorem Post.tupN (post : Post Θ W σ Q F b H P E) (x : Ext Θ F b H F2 b2 H2) (w0 : Wd Θ F b H) (w : Wd Θ F2 b2 H2) {vs : List V} {xs : List D} (rl : RepL Θ F2 H2 vs xs) (hp : P (.val (.tup xs)) b2) {p : Addr} (np : H2 p = none) :
    Q (.ref p) (upd H2 p (.tup vs)) := by
  have y := Ext.new (Θ := Θ) (F := F2) (b := b2) (o := .tup vs) np noTab_tup w
  exact post.ok _ _ hp _ _ _ (x.trans y w0) (Rep.tup (.inr rfl) upd_same (rl.ext y w))
theorem Post.sc (post : Post Θ W σ Q F b H P E) (x : Ext Θ F b H F2 b2 H2) {v : V} {d : D} (r : Rep Θ F2 H2 v d) (hp : P (.val d) b2) : Q v H2 := post.ok _ _ hp _ _ _ x r
end

/-! ### where one stands -/
def freeNames : List Str := ["len", "tuple", "list", "all", "any", "int", "abs", "repr", "str", "range", "enumerate", "zip", "isinstance", "bool", "dict"]
/-- the program, the world, the written part, the module's names, the heap ahead of the law -/
structure Wo where
  P : Program
  w : World
  K : PySem.W.Frag
  mg : Str → Option Value
  base : Heap
def tyNames : List String := ["int", "bool", "str", "tuple", "list", "dict"]
def btNames : List String := ["NoneType", "int", "bool", "str", "tuple", "list", "dict"]
/-- what isinstance tells of the classes -/
structure IsiG (Θ : Th) : Prop where
  at_ : ∀ c ∈ Θ.ins, ∃ C, Θ.glb c = some C
  of : ∀ c ∈ Θ.ins, ∀ C, Θ.glb c = some C → PySem.W.findIn Θ.K (.ref C) "__class__" = some (some (.builtin "object.__class__")) ∧ PySem.W.mroIn Θ.K C (.type "object") = some true
  sp : Θ.ins ≠ [] → PySem.W.specialIn Θ.K (.builtin "object.__class__") "__get__" = some (some (.builtin "getset_descriptor.__get__")) ∧ PySem.W.takesIn Θ.K (.builtin "object.__class__") = some true
  ty : ∀ c ∈ Θ.ins, ∀ C, Θ.glb c = some C → ∀ n ∈ tyNames, PySem.W.kitOne Θ.K (.ref C) (.type n) = some false
  bt : ∀ c ∈ Θ.ins, ∀ C, Θ.glb c = some C → ∀ n ∈ btNames, PySem.W.kitOne Θ.K (.type n) (.ref C) = some false
  cc : ∀ c ∈ Θ.ins, ∀ C, Θ.glb c = some C → ∀ c' ∈ Θ.ins, ∀ C', Θ.glb c' = some C' → PySem.W.kitOne Θ.K (.ref C') (.ref C) = some (decide (c' = c))
structure XG (X : Cx) (Y : Wo) (Θ : Th) (k : Nat) (N : List Str) (sc : Scope) (W : WX) : Prop where
  hP : X.prog = Y.P
  hw : X.w = Y.w
  hKY : X.K = Y.K
  hmg : X.mg = Y.mg
  hbase : X.base = Y.base
  hK : X.K = Θ.K
  hN : X.N = N
  nd : N.Nodup
  hs : X.env.scope = sc
  calm : X.calm = true
  room : Room k X.A
  grd : X.A.guards = some []
  tk : Takes X W
  glb : ∀ x a, Θ.glb x = some a → X.mg x = some (.ref a)
  free : ∀ x ∈ freeNames, X.mg x = none
  gcd : Θ.gcdOn = true → X.mg "gcd" = some (.builtin "math.gcd")
  ins : ∀ c ∈ Θ.ins, ∀ C, Θ.glb c = some C → Cls Θ.K C ∧ ∀ f ∈ Θ.flds, NoAttr Θ.K C f
  isi : IsiG Θ

def visB (sc : Scope) (x : Str) : Bool := match sc.names.lookup x with
  | some .local => true
  | some .cell => true
  | some .free => true
  | _ => false
theorem vis_of {sc : Scope} {x : Str} (h : visB sc x = true) : Vis sc x := by
  unfold visB at h
  split at h
  · exact .inl (by assumption)
  · exact .inr (.inl (by assumption))
  · exact .inr (.inr (by assumption))
  · cases h
def glB (sc : Scope) (x : Str) : Bool := match sc.names.lookup x with
  | some .globalImplicit => true
  | _ => false
theorem gl_of {X : Cx} {x : Str} (h : glB X.env.scope x = true) : Gl X x := by
  unfold glB at h
  split at h
  · assumption
  · cases h
def plainName (x : Str) : Bool := !(x == ("__debug__" : Str)) && !(x == ("__classdict__" : Str))
theorem plainName_debug {x : Str} (h : plainName x = true) : (x == ("__debug__" : Str)) = false ∧ (x == ("__classdict__" : Str)) = false := by
  unfold plainName at h
  simp only [Bool.and_eq_true, Bool.not_eq_true'] at h
  exact h

section
variable {X : Cx} {Y : Wo} {Θ : Th} {k : Nat} {N : List Str} {sc : Scope} {W : WX} {e : En}
/-! ### names, constants -/
theorem getV_ok {ρ : Env'} {i : Nat} {P : R → Nat → Prop} {E : XD → Nat → Prop} {b : Nat} (m : getV ρ i P E b) : ∃ r, ρ[i]? = some (some r) ∧ P r b := by
  unfold getV at m
  cases h : ρ[i]? with
  | none => rw [h] at m; exact m.elim
  | some o =>
    cases o with
    | none => rw [h] at m; exact m.elim
    | some r => rw [h] at m; exact ⟨r, rfl, m⟩
theorem v_var {i : Nat} {x : Str} {pos : Pos} (G : XG X Y Θ k N sc W) (hi : N[i]? = some x) (hv : visB sc x = true) (hp : plainName x = true) : PE X (.Name x pos) (tV Θ e W (ev (.var i))) := by
  obtain ⟨h1, h2⟩ := plainName_debug hp
  refine peI (pe_var (i := i) (by rw [G.hN]; exact hi) (by rw [G.hs]; exact vis_of hv) h1 h2) fun σ H Q h => ?_
  obtain ⟨F, b, ρ, P, E, ok, m, post⟩ := h
  obtain ⟨r, hr, m⟩ := getV_ok m
  obtain ⟨v, hv, hr⟩ := ok.get hr
  exact ⟨v, hv, post.ok _ _ m _ _ _ .refl hr⟩
theorem tV_lit {d : D} {v : V} (hd : ∀ F H, Rep Θ F H v d) (σ : St) (H : Hp) (Q : VK) (h : tV Θ e W (fun _ => ret (.val d)) σ H Q) : tC v σ H Q := by
  obtain ⟨F, b, ρ, P, E, ok, m, post⟩ := h
  exact post.ok _ _ m _ _ _ .refl (hd _ _)

/-! ### operators -/
/-- two terms, then an operation -/
theorem v_bin {fa fb : Env' → M R} {op : R → R → M R} {r : R2}
    (rule : ∀ {σ : St} {Q : VK} {F F2 : Addr → Prop} {b b2 : Nat} {H H2 : Hp} {P : R → Nat → Prop} {E : XD → Nat → Prop} {v u : V} {x y : R}, Post Θ W σ Q F b H P E → Ext Θ F b H F2 b2 H2 → Wd Θ F b H → Wd Θ F2 b2 H2 →
      RepR Θ H F2 H2 v x → RepR Θ H F2 H2 u y → op x y P E b2 → r v u H2 Q) (σ : St) (H : Hp) (Q : VK) (h : tV Θ e W (fun ρ => bnd (fa ρ) fun x => bnd (fb ρ) fun y => op x y) σ H Q) : tOp r (tV Θ e W fa) (tV Θ e W fb) σ H Q := by
  obtain ⟨F, b, ρ, P, E, ok, m, post⟩ := h
  refine ⟨F, b, ρ, _, E, ok, m, ⟨fun x b1 m1 v F1 H1 x1 r1 => ?_, post.ex⟩⟩
  refine ⟨F1, b1, ρ, _, E, ok.ext x1, m1, ⟨fun y b2 m2 u F2 H2 x2 r2 => ?_, ex_ext ok.wd x1 post.ex⟩⟩
  have ok1 := ok.ext x1
  exact rule post (x1.trans x2 ok.wd) ok.wd (ok1.wd.ext x2) (r1.ext x2 ok1.wd) (r2.base x1) m2
/-- one term, then an operation -/
theorem v_un {fa : Env' → M R} {op : R → M R} {r : V → Hp → VK → Prop}
    (rule : ∀ {σ : St} {Q : VK} {F F2 : Addr → Prop} {b b2 : Nat} {H H2 : Hp} {P : R → Nat → Prop} {E : XD → Nat → Prop} {v : V} {x : R}, Post Θ W σ Q F b H P E → Ext Θ F b H F2 b2 H2 → Wd Θ F b H → Wd Θ F2 b2 H2 →
      RepR Θ H F2 H2 v x → op x P E b2 → r v H2 Q) (σ : St) (H : Hp) (Q : VK) (h : tV Θ e W (fun ρ => bnd (fa ρ) op) σ H Q) : tV Θ e W fa σ H (fun x H1 => r x H1 Q) := by
  obtain ⟨F, b, ρ, P, E, ok, m, post⟩ := h
  exact ⟨F, b, ρ, _, E, ok, m, ⟨fun x b1 m1 v F1 H1 x1 r1 => rule post x1 ok.wd (ok.wd.ext x1) r1 m1, post.ex⟩⟩

def CDivL (i j : Int) : Prop := j ≠ 0 ∧ j.natAbs.log2 < 9000
theorem op_fdivL : OpR X (binaryOp .FloorDiv) (rI CDivL fun i j => .int (i.fdiv j)) := opI fun _ _ _ _ _ _ _ hc q => floordiv_int hc.1 q (.inl (PyProof.noPylong_of_log2 hc.2))
/-- the reading of an operator on data -/
def rBin (K : PySem.W.Frag) (op : Operator) : R2 := match op with
  | .Add => fun x y H Q => rI0 (fun i j => .int (i + j)) x y H Q ∨ (rCat x y H Q ∨ (rCatA K x y H Q ∨ (∃ i j, x = .str i ∧ y = .str j ∧ i.length + j.length ≤ sizeLine ∧ Q (.str (i ++ j)) H)))
  | .Sub => rI0 fun i j => .int (i - j)
  | .Mult => fun x y H Q => rI CMulX (fun i j => .int (i * j)) x y H Q ∨ (rRep x y H Q ∨ rRepT K x y H Q)
  | .FloorDiv => rI CDivL fun i j => .int (i.fdiv j)
  | .Mod => rI (fun _ j => j ≠ 0) fun i j => .int (i.fmod j)
  | .Pow => rI CPow fun i j => .int (i ^ j.toNat)
  | _ => fun _ _ _ _ => False
theorem op_bin (op : Operator) : OpR X (binaryOp op) (rBin X.K op) := by
  have no : ∀ {f : Value → Value → Sem Value}, OpR X f (fun _ _ _ _ => False) := fun pins s σ H x y v u Q I rx ry h => h.elim
  cases op <;> first
    | exact op_add.or (op_cat.or (op_catA.or op_add_str))
    | exact op_sub
    | exact op_mulX.or (op_rep.or op_repT)
    | exact op_fdivL
    | exact op_modN
    | exact op_pow
    | exact no

theorem m_fail {α : Type} {P : α → Nat → Prop} {E : XD → Nat → Prop} {b : Nat} {p : Prop} (h : (fail : M α) P E b) : p := h.elim
section
variable {σ : St} {Q : VK} {F F2 : Addr → Prop} {b b2 : Nat} {H H2 : Hp} {P : R → Nat → Prop} {E : XD → Nat → Prop} {v u : V} {x y : R}
theorem tup_nil {vs : List V} {F : Addr → Prop} {H : Hp} (h : RepL Θ F H vs []) : vs = [] := by cases h; rfl
/-- an object that stands, or a tuple of the written part: data that may be kept -/
theorem tup_keep {v : V} {xs : List D} (r : RepR Θ H F2 H2 v x) (hx : x.d = .tup xs) : Rep Θ F2 H2 v (.tup xs) := by
  cases x with
  | val d => cases (show d = .tup xs from hx); exact r
  | own d => obtain ⟨a, _, _, _, c⟩ := r; rw [show d = .tup xs from hx] at c; exact c.elim
  | frs d => obtain ⟨a, _, _, _, _, c⟩ := r; rw [show d = .tup xs from hx] at c; exact c.elim
theorem bin_ok {op : Operator} (post : Post Θ W σ Q F b H P E) (x1 : Ext Θ F b H F2 b2 H2) (w : Wd Θ F b H) (w2 : Wd Θ F2 b2 H2) (r1 : RepR Θ H F2 H2 v x) (r2 : RepR Θ H F2 H2 u y) (m : binD op x y P E b2) : rBin Θ.K op v u H2 Q := by
  have s1 := r1.sees
  have s2 := r2.sees
  unfold binD at m
  cases hx : x.d <;> rw [hx] at m s1 <;> cases hy : y.d <;> rw [hy] at m s2 <;> try exact m.elim
  · -- ints
    rename_i i j
    cases (show v = .int i from s1)
    cases (show u = .int j from s2)
    cases op <;> try exact m.elim
    · exact .inl ⟨i, j, rfl, rfl, post.sc x1 (.int _) m⟩
    · exact ⟨i, j, rfl, rfl, post.sc x1 (.int _) m⟩
    · exact .inl ⟨i, j, rfl, rfl, m.1, post.sc x1 (.int _) m.2⟩
    · exact ⟨i, j, rfl, rfl, m.1, post.sc x1 (.int _) m.2⟩
    · exact ⟨i, j, rfl, rfl, m.1, post.sc x1 (.int _) m.2⟩
    · exact ⟨i, j, rfl, rfl, m.1, post.sc x1 (.int _) m.2⟩
  · -- texts
    rename_i i j
    cases (show v = .str i from s1)
    cases (show u = .str j from s2)
    cases op <;> try exact m.elim
    exact .inr (.inr (.inr ⟨i, j, rfl, rfl, m.1, post.sc x1 (.str _) m.2⟩))
  · -- tuple * int
    rename_i xs k
    obtain ⟨a, vs, rfl, h1, h2⟩ := s1
    cases (show u = .int k from s2)
    cases op <;> try exact m.elim
    have hl := h2.length
    obtain ⟨⟨m1, m2, m3, m4⟩, m5⟩ := m
    exact .inr (.inr ⟨a, k, vs, rfl, rfl, h1, fun z => m1 (by subst z; cases h2; rfl), m2, m3, by omega, fun p np => post.tupN x1 w w2 (h2.rep _) m5 np⟩)
  · -- tuple + tuple
    rename_i xs ys
    have q1 := tup_keep r1 hx
    have q2 := tup_keep r2 hy
    obtain ⟨a, vs, rfl, h1, h2⟩ := s1
    obtain ⟨c, us, rfl, h3, h4⟩ := s2
    cases op <;> try exact m.elim
    have hl := h2.length
    have hl2 := h4.length
    obtain ⟨m1, m2⟩ := m
    refine .inr (.inr (.inl ⟨a, c, vs, us, rfl, rfl, h1, h3, by omega, fun z => ?_, fun z z2 => ?_, fun _ _ p np => post.tupN x1 w w2 (h2.append h4) m2 np⟩))
    · subst z; cases h2
      exact post.sc x1 q2 m2
    · subst z2; cases h4
      rw [List.append_nil] at m2
      exact post.sc x1 q1 m2
  · -- list * int
    rename_i xs k
    obtain ⟨a, vs, rfl, h1, h2⟩ := s1
    cases (show u = .int k from s2)
    cases op <;> try exact m.elim
    have hl := h2.length
    obtain ⟨⟨m1, m2, m3⟩, m5⟩ := m
    exact .inr (.inl ⟨a, k, vs, rfl, rfl, h1, m1, m2, by rw [hl]; exact m3, fun p np => post.frsL x1 w w2 (h2.rep _) m5 np⟩)
  · -- list + list
    rename_i xs ys
    obtain ⟨a, vs, rfl, h1, h2⟩ := s1
    obtain ⟨c, us, rfl, h3, h4⟩ := s2
    cases op <;> try exact m.elim
    have hl := h2.length
    have hl2 := h4.length
    obtain ⟨m1, m2⟩ := m
    exact .inr (.inl ⟨a, c, vs, us, rfl, rfl, h1, h3, by omega, fun p np => post.frsL x1 w w2 (h2.append h4) m2 np⟩)
end
end
end VL
end
-- V4
section
set_option Elab.async false
set_option linter.all false
set_option maxRecDepth 100000
set_option maxHeartbeats 4000000
/-! Soundness: comparisons, items, slices, fields, built-in functions. -/
namespace VL
open PySem PySem.Spec PyProof.Rows
open L2 hiding St
section
variable {Θ : Th} {F : Addr → Prop} {H : Hp}
theorem pys_cons {x : D} {xs : List D} {l : List PyData} (h : D.pys (x :: xs) = some l) : ∃ a r, x.py = some a ∧ D.pys xs = some r ∧ l = a :: r := by
  unfold D.pys at h
  cases h1 : x.py with
  | none => rw [h1] at h; simp at h
  | some a =>
    cases h2 : D.pys xs with
    | none => rw [h1, h2] at h; simp at h
    | some r => rw [h1, h2] at h; simp at h; exact ⟨a, r, rfl, rfl, h.symm⟩
theorem map_some {α β : Type} {f : α → β} {o : Option α} {y : β} (h : o.map f = some y) : ∃ x, o = some x ∧ y = f x := by
  cases o with
  | none => cases h
  | some x => exact ⟨x, rfl, (Option.some.inj h).symm⟩
mutual
theorem Rep.dp : ∀ {d : D} {v : V} {p : PyData}, Rep Θ F H v d → d.py = some p → Dp Θ.K H v p
  | .non, _, _, h, e => by cases h; cases e; exact .non
  | .bl b, _, _, h, e => by cases h; cases e; exact .bl b
  | .int i, _, _, h, e => by cases h; cases e; exact .int i
  | .str x, _, _, h, e => by cases h; cases e; exact .str x
  | .tup xs, _, _, h, e => by
    obtain ⟨l, h1, rfl⟩ := map_some (show (D.pys xs).map PyData.tuple = _ from e)
    cases h with
    | tup a b c => exact .tup (SqT.of b) (RepL.dp c h1)
    | ktup a c => exact .tup (.inr a) (RepL.dp c h1)
  | .lst xs, _, _, h, e => by
    obtain ⟨l, h1, rfl⟩ := map_some (show (D.pys xs).map PyData.list = _ from e)
    cases h with
    | lst a b c => exact .lst (SqL.of b) (RepL.dp c h1)
  | .dct _, _, _, _, e => by cases e
  | .obj _ _, _, _, _, e => by cases e
  | .fn _, _, _, _, e => by cases e
  | .clo _ _, _, _, _, e => by cases e
  | .pen, _, _, _, e => by cases e
theorem RepL.dp : ∀ {ds : List D} {vs : List V} {p : List PyData}, RepL Θ F H vs ds → D.pys ds = some p → DpAll Θ.K H vs p
  | [], _, _, h, e => by cases h; cases e; exact .nil
  | d :: ds, _, _, h, e => by
    obtain ⟨a, r, h1, h2, rfl⟩ := pys_cons e
    cases h with
    | cons x y => exact .cons (Rep.dp x h1) (RepL.dp y h2)
end
theorem Sees.dp {d : D} {v : V} {p : PyData} (h : Sees Θ F H v d) (e : d.py = some p) : Dp Θ.K H v p := by
  cases d with
  | non => cases (show v = .non from h); cases e; exact .non
  | bl b => cases (show v = .bl b from h); cases e; exact .bl b
  | int i => cases (show v = .int i from h); cases e; exact .int i
  | str x => cases (show v = .str x from h); cases e; exact .str x
  | tup xs =>
    obtain ⟨l, h1, rfl⟩ := map_some (show (D.pys xs).map PyData.tuple = _ from e)
    obtain ⟨a, vs, rfl, h2, h3⟩ := h
    exact .tup h2 (h3.dp h1)
  | lst xs =>
    obtain ⟨l, h1, rfl⟩ := map_some (show (D.pys xs).map PyData.list = _ from e)
    obtain ⟨a, vs, rfl, h2, h3⟩ := h
    exact .lst (SqL.of h2) (h3.dp h1)
  | _ => cases e
theorem pyrs_cons {x : D} {xs : List D} {l : List PyData} (h : D.pyrs (x :: xs) = some l) : ∃ a r, x.pyr = some a ∧ D.pyrs xs = some r ∧ l = a :: r := by
  unfold D.pyrs at h
  cases h1 : x.pyr with
  | none => rw [h1] at h; simp at h
  | some a =>
    cases h2 : D.pyrs xs with
    | none => rw [h1, h2] at h; simp at h
    | some r => rw [h1, h2] at h; simp at h; exact ⟨a, r, rfl, rfl, h.symm⟩
theorem pyrk_cons {k : Str} {x : D} {xs : List (Str × D)} {l : List (PyData × PyData)} (h : D.pyrk ((k, x) :: xs) = some l) : ∃ a r, x.pyr = some a ∧ D.pyrk xs = some r ∧ l = (.str k, a) :: r := by
  unfold D.pyrk at h
  cases h1 : x.pyr with
  | none => rw [h1] at h; simp at h
  | some a =>
    cases h2 : D.pyrk xs with
    | none => rw [h1, h2] at h; simp at h
    | some r => rw [h1, h2] at h; simp at h; exact ⟨a, r, rfl, rfl, h.symm⟩
section
variable {X : Cx} {pins : List (Addr × Obj)} {σ : St} {s : Shared}
theorem dct_rd (I : Inv X pins σ H s) {n : Bool} {a : Addr} {kvs : List (Key × V)} {l : List (PyData × PyData)} (e : H a = some (.dK kvs))
    (h : ∀ {es : List DictEntry} {vs : List (Key × Value)}, KV kvs vs → Pairs (mixKind X.prog X.w) es vs → ∃ as bs, ReadsAll s.heap (es.map (·.key)) (l.map (·.1)) as ∧ ReadsAll s.heap (es.map (·.val)) (l.map (·.2)) bs ∧ (n = true → sysModules ∉ as ∧ sysModules ∉ bs)) :
    ∃ as, Reads s.heap (.ref a) (.dict l) as ∧ (n = true → sysModules ∉ as) := by
  obtain ⟨_, ns, vs, kv, o, es, ep, ho, hx, hd, _, pr, _⟩ := (show ObjOk X.prog X.w H s.heap a (.dK kvs) from I.hok a _ e)
  obtain ⟨as, bs, r1, r2, n1⟩ := h kv pr
  refine ⟨_, .dict ho hx.1 hd r1 r2, fun hn z => ?_⟩
  rcases List.mem_append.mp z with z | z
  · rcases List.mem_cons.mp z with z | z
    · rw [← z] at ns; simp at ns
    · exact (n1 hn).1 z
  · exact (n1 hn).2 z
mutual
theorem Rep.rd (I : Inv X pins σ H s) (hK : X.K = Θ.K) : ∀ {d : D} {v : V} {p : PyData} {u : Value}, Rep Θ F H v d → d.pyr = some p → RelV v u → ∃ as, Reads s.heap u p as ∧ (d.noLst = true → sysModules ∉ as)
  | .non, _, _, _, h, e, r => by cases h; cases e; cases r; exact ⟨_, .none, by simp⟩
  | .bl b, _, _, _, h, e, r => by cases h; cases e; cases r; exact ⟨_, .bool b, by simp⟩
  | .int i, _, _, _, h, e, r => by cases h; cases e; obtain ⟨t, rfl⟩ := r; exact ⟨_, .int i t, by simp⟩
  | .str x, _, _, _, h, e, r => by cases h; cases e; obtain ⟨t, rfl⟩ := r; exact ⟨_, .str x t, by simp⟩
  | .tup xs, _, _, _, h, e, r => by
    obtain ⟨l, h1, rfl⟩ := map_some (show (D.pyrs xs).map PyData.tuple = _ from e)
    have key : ∀ {a : Addr} {vs : List V}, SqT X.K H a vs → RepL Θ F H vs xs → ∃ as, Reads s.heap (.ref a) (.tuple l) as ∧ (D.noLsts xs = true → sysModules ∉ as) := fun {a vs} hs c => by
      obtain ⟨its, rv, ⟨o, ho, hc, n, hd⟩, _⟩ := I.tuple hs
      obtain ⟨as, hr, hn⟩ := RepL.rd I hK c h1 rv
      exact ⟨_, .tuple ho hc hd hr, hn⟩
    cases h with
    | tup a b c => cases r; exact key (SqT.of b) c
    | ktup a c => cases r; exact key (.inr (by rw [hK]; exact a)) c
  | .lst xs, _, _, _, h, e, r => by
    obtain ⟨l, h1, rfl⟩ := map_some (show (D.pyrs xs).map PyData.list = _ from e)
    cases h with
    | lst a b c =>
      cases r
      obtain ⟨its, rv, ⟨o, n, ho, hc, _, hd⟩, _⟩ := I.list (SqL.of b)
      obtain ⟨as, hr, hn⟩ := RepL.rd I hK c h1 rv
      exact ⟨_, .list ho hc hd hr, fun z => by cases z⟩
  | .dct xs, _, _, _, h, e, r => by
    obtain ⟨l, h1, rfl⟩ := map_some (show (D.pyrk xs).map PyData.dict = _ from e)
    cases h with
    | dct a b c =>
      cases r
      exact dct_rd (n := D.noLstK xs) I b fun kv pr => RepK.rd I hK c h1 kv pr
  | .obj _ _, _, _, _, _, e, _ => by cases e
  | .fn _, _, _, _, _, e, _ => by cases e
  | .clo _ _, _, _, _, _, e, _ => by cases e
  | .pen, _, _, _, _, e, _ => by cases e
theorem RepL.rd (I : Inv X pins σ H s) (hK : X.K = Θ.K) : ∀ {ds : List D} {vs : List V} {p : List PyData} {us : List Value}, RepL Θ F H vs ds → D.pyrs ds = some p → Vals vs us → ∃ as, ReadsAll s.heap us p as ∧ (D.noLsts ds = true → sysModules ∉ as)
  | [], _, _, _, h, e, r => by cases h; cases e; cases r; exact ⟨_, .nil, by simp⟩
  | d :: ds, _, _, _, h, e, r => by
    obtain ⟨a, r', h1, h2, rfl⟩ := pyrs_cons e
    cases h with
    | cons x y =>
      cases r with
      | cons r1 r2 =>
        obtain ⟨as, q1, n1⟩ := Rep.rd I hK x h1 r1
        obtain ⟨bs, q2, n2⟩ := RepL.rd I hK y h2 r2
        refine ⟨_, .cons q1 q2, fun n z => ?_⟩
        have n' := Bool.and_eq_true_iff.mp (show (d.noLst && D.noLsts ds) = true from n)
        exact (List.mem_append.mp z).elim (n1 n'.1) (n2 n'.2)
theorem RepK.rd (I : Inv X pins σ H s) (hK : X.K = Θ.K) : ∀ {ds : List (Str × D)} {kvs : List (Key × V)} {l : List (PyData × PyData)} {es : List DictEntry} {vs : List (Key × Value)}, RepK Θ F H kvs ds → D.pyrk ds = some l → KV kvs vs → Pairs (mixKind X.prog X.w) es vs →
    ∃ as bs, ReadsAll s.heap (es.map (·.key)) (l.map (·.1)) as ∧ ReadsAll s.heap (es.map (·.val)) (l.map (·.2)) bs ∧ (D.noLstK ds = true → sysModules ∉ as ∧ sysModules ∉ bs)
  | [], _, _, _, _, h, e, kv, pr => by
    cases h; cases e; cases kv; cases pr
    exact ⟨_, _, .nil, .nil, by simp⟩
  | (k, d) :: ds, _, _, _, _, h, e, kv, pr => by
    obtain ⟨a, r', h1, h2, rfl⟩ := pyrk_cons e
    cases h with
    | cons x y =>
      cases kv with
      | cons kv1 kv2 =>
        cases pr with
        | @cons en kvp es kvs p1k p1v p2 =>
          obtain ⟨as, q1, n1⟩ := Rep.rd I hK x h1 kv1.2
          obtain ⟨bs, cs, q2, q3, n2⟩ := RepK.rd I hK y h2 kv2 p2
          obtain ⟨t, ek⟩ : ∃ t, en.key = .str k t := by
            rw [← kv1.1] at p1k
            rcases keyIs_shape (show keyIs (.inr k) en.key = true from p1k) with ⟨i, t, z, _⟩ | ⟨x, t, z, e⟩
            · cases z
            · cases z; exact ⟨t, e⟩
          refine ⟨[] ++ bs, as ++ cs, ?_, ?_, fun n => ?_⟩
          · show ReadsAll s.heap (en.key :: _) (PyData.str k :: _) _
            rw [ek]
            exact .cons (.str k t) q2
          · show ReadsAll s.heap (en.val :: _) (a :: _) _
            rw [p1v]
            exact .cons q1 q3
          · have n' := Bool.and_eq_true_iff.mp (show (d.noLst && D.noLstK ds) = true from n)
            exact ⟨(n2 n'.2).1, fun z => (List.mem_append.mp z).elim (n1 n'.1) (n2 n'.2).2⟩
end
theorem Sees.rd (I : Inv X pins σ H s) (hK : X.K = Θ.K) {d : D} {v : V} {p : PyData} {u : Value} (h : Sees Θ F H v d) (e : d.pyr = some p) (r : RelV v u) : ∃ as, Reads s.heap u p as ∧ (d.noLst = true → sysModules ∉ as) := by
  cases d with
  | non => cases (show v = .non from h); exact Rep.rd (F := F) (Θ := Θ) I hK .non e r
  | bl b => cases (show v = .bl b from h); exact Rep.rd (F := F) (Θ := Θ) I hK (.bl b) e r
  | int i => cases (show v = .int i from h); exact Rep.rd (F := F) (Θ := Θ) I hK (.int i) e r
  | str x => cases (show v = .str x from h); exact Rep.rd (F := F) (Θ := Θ) I hK (.str x) e r
  | tup xs =>
    obtain ⟨l, h1, rfl⟩ := map_some (show (D.pyrs xs).map PyData.tuple = _ from e)
    obtain ⟨a, vs, rfl, h2, h3⟩ := h
    cases r
    obtain ⟨its, rv, ⟨o, ho, hc, n, hd⟩, _⟩ := I.tuple (by rw [hK]; exact h2)
    obtain ⟨as, hr, hn⟩ := RepL.rd I hK h3 h1 rv
    exact ⟨_, .tuple ho hc hd hr, hn⟩
  | lst xs =>
    obtain ⟨l, h1, rfl⟩ := map_some (show (D.pyrs xs).map PyData.list = _ from e)
    obtain ⟨a, vs, rfl, b, h3⟩ := h
    cases r
    obtain ⟨its, rv, ⟨o, n, ho, hc, _, hd⟩, _⟩ := I.list (SqL.of b)
    obtain ⟨as, hr, hn⟩ := RepL.rd I hK h3 h1 rv
    exact ⟨_, .list ho hc hd hr, fun z => by cases z⟩
  | dct xs =>
    obtain ⟨l, h1, rfl⟩ := map_some (show (D.pyrk xs).map PyData.dict = _ from e)
    obtain ⟨a, vs, rfl, b, h3⟩ := h
    cases r
    exact dct_rd (n := D.noLstK xs) I b fun kv pr => RepK.rd I hK h3 h1 kv pr
  | _ => cases e
end
theorem Sees.flat {d : D} {v : V} (h : Sees Θ F H v d) (e : d.flat = true) : v = d.vflat ∧ flatV v = true := by
  cases d with
  | non => exact ⟨h, by cases (show v = _ from h); rfl⟩
  | bl b => exact ⟨h, by cases (show v = _ from h); rfl⟩
  | int i => exact ⟨h, by cases (show v = _ from h); rfl⟩
  | str i => exact ⟨h, by cases (show v = _ from h); rfl⟩
  | _ => cases e
theorem RepL.flat {ds : List D} {vs : List V} (h : RepL Θ F H vs ds) (e : ds.all D.flat = true) : vs = ds.map D.vflat ∧ vs.all flatV = true := by
  induction ds generalizing vs with
  | nil => cases h; exact ⟨rfl, rfl⟩
  | cons d ds ih =>
    cases h with
    | cons a b =>
      rw [List.all_cons, Bool.and_eq_true] at e
      obtain ⟨e1, e2⟩ := ih b e.2
      obtain ⟨e3, e4⟩ := a.sees.flat e.1
      exact ⟨by rw [List.map_cons, e1, e3], by rw [List.all_cons, e2, e4]; rfl⟩
end

/-- the reading of a comparison of data -/
theorem op_or {X : Cx} {f : Value → Value → Sem Value} {r r' : R2} (h : OpR X f r) (g : OpR X f r') : OpR X f (fun x y H Q => r x y H Q ∨ r' x y H Q) := fun pins s σ H x y v u Q I rx ry q => q.elim (h pins s σ H x y v u Q I rx ry) (g pins s σ H x y v u Q I rx ry)
def rCmp (K : PySem.W.Frag) (op : CmpOp) : R2 := match op with
  | .Eq => fun x y H Q => rEqD K x y H Q ∨ rEq x y H Q
  | .NotEq => fun x y H Q => rNeD K x y H Q ∨ rNe x y H Q
  | .Is => fun x y H Q => (y = .non ∧ Q (.bl (decide (x = .non))) H) ∨ ∃ a b, x = .bl a ∧ y = .bl b ∧ Q (.bl (decide (a = b))) H
  | .IsNot => fun x y H Q => (y = .non ∧ Q (.bl (!decide (x = .non))) H) ∨ ∃ a b, x = .bl a ∧ y = .bl b ∧ Q (.bl (!decide (a = b))) H
  | .In => rIn K false
  | .NotIn => rIn K true
  | .Lt => rI0 fun i j => .bl (decide (i < j))
  | .LtE => rI0 fun i j => .bl (decide (i ≤ j))
  | .Gt => rI0 fun i j => .bl (decide (j < i))
  | .GtE => rI0 fun i j => .bl (decide (j ≤ i))
theorem op_cmp {X : Cx} (hu : X.A.units + 64 < cLine) (op : CmpOp) : OpR X (compareOp op) (rCmp X.K op) := by
  cases op with
  | Eq => exact op_or (op_eqD hu) op_eq
  | NotEq => exact op_or (op_neD hu) op_ne
  | Is => exact op_isN.or op_is_bl
  | IsNot => exact op_notN.or op_isnot_bl
  | In => exact op_in_seq
  | NotIn => exact op_notIn_seq
  | Lt => exact op_lt
  | LtE => exact op_le
  | Gt => exact op_gt
  | GtE => exact op_ge
theorem strs2_some {a b : D} {t : Bool} (h : strs2 a b = some t) : ∃ x y, a = .str x ∧ b = .str y ∧ t = decide (x = y) := by
  unfold strs2 at h
  split at h
  · cases h; exact ⟨_, _, rfl, rfl, rfl⟩
  · cases h
theorem dec_str2 {x y : Str} : decide (V.str x = V.str y) = decide (x = y) := by
  rw [Bool.eq_iff_iff, decide_eq_true_eq, decide_eq_true_eq]
  exact ⟨fun e => by cases e; rfl, fun e => by rw [e]⟩
theorem okPy_ok {d : D} {k : PyData → M R} {P : R → Nat → Prop} {E : XD → Nat → Prop} {b : Nat} (m : okPy d k P E b) : ∃ p, d.py = some p ∧ SeqAt.shaped p = true ∧ k p P E b := by
  unfold okPy at m
  cases h : d.py with
  | none => rw [h] at m; exact m.elim
  | some p => rw [h] at m; exact ⟨p, rfl, m.1, m.2⟩
section
variable {Θ : Th} {W : WX} {σ : St} {Q : VK} {F F2 : Addr → Prop} {b b2 : Nat} {H H2 : Hp} {P : R → Nat → Prop} {E : XD → Nat → Prop} {v u : V} {x y : R}
theorem isNone_ok {F : Addr → Prop} {H : Hp} {v : V} {d : D} (s : Sees Θ F H v d) : decide (v = .non) = isNone d := by
  cases d <;> first | (cases s; rfl) | (obtain ⟨_, _, _, _, h, _⟩ := s; subst h; rfl) | (obtain ⟨_, _, h, _⟩ := s; subst h; rfl) | (obtain ⟨_, h, _⟩ := s; subst h; rfl) | (obtain ⟨_, h⟩ := s; subst h; rfl)
theorem cmp_ok {op : CmpOp} (post : Post Θ W σ Q F b H P E) (x1 : Ext Θ F b H F2 b2 H2) (s1 : Sees Θ F2 H2 v x.d) (s2 : Sees Θ F2 H2 u y.d) (m : cmpD op x y P E b2) : rCmp Θ.K op v u H2 Q := by
  have nums : ∀ {f : Int → Int → Bool}, (match x.d, y.d with
    | .int i, .int j => match intC op i j with
      | some t => (ret (.val (.bl t)) : M R)
      | none => fail
    | _, _ => fail) P E b2 → (∀ i j, intC op i j = some (f i j)) → rI0 (fun i j => .bl (f i j)) v u H2 Q := fun {f} m hf => by
    cases hx : x.d <;> rw [hx] at m s1 <;> try exact m.elim
    cases hy : y.d <;> rw [hy] at m s2 <;> try exact m.elim
    rename_i i j
    cases (show v = .int i from s1)
    cases (show u = .int j from s2)
    refine ⟨i, j, rfl, rfl, ?_⟩
    simp only [hf i j] at m
    exact post.sc x1 (.bl _) m
  cases op with
  | Eq =>
    unfold cmpD at m
    dsimp only at m
    cases hs : strs2 x.d y.d with
    | some t =>
      simp only [hs] at m
      obtain ⟨c, d, e1, e2, rfl⟩ := strs2_some hs
      rw [e1] at s1
      rw [e2] at s2
      cases (show v = .str c from s1)
      cases (show u = .str d from s2)
      refine .inr ⟨rfl, ?_⟩
      rw [dec_str2]
      exact post.sc x1 (.bl _) m
    | none =>
      simp only [hs] at m
      obtain ⟨p, e1, h1, m⟩ := okPy_ok m
      obtain ⟨q, e2, h2, m⟩ := okPy_ok m
      exact .inl ⟨p, q, s1.dp e1, s2.dp e2, h1, h2, post.sc x1 (.bl _) m⟩
  | NotEq =>
    unfold cmpD at m
    dsimp only at m
    cases hs : strs2 x.d y.d with
    | some t =>
      simp only [hs] at m
      obtain ⟨c, d, e1, e2, rfl⟩ := strs2_some hs
      rw [e1] at s1
      rw [e2] at s2
      cases (show v = .str c from s1)
      cases (show u = .str d from s2)
      refine .inr ⟨rfl, ?_⟩
      rw [dec_str2]
      exact post.sc x1 (.bl _) m
    | none =>
      simp only [hs] at m
      obtain ⟨p, e1, h1, m⟩ := okPy_ok m
      obtain ⟨q, e2, h2, m⟩ := okPy_ok m
      exact .inl ⟨p, q, s1.dp e1, s2.dp e2, h1, h2, post.sc x1 (.bl _) m⟩
  | Is =>
    unfold cmpD at m
    cases hy : y.d <;> rw [hy] at m s2 <;> try exact m.elim
    · refine .inl ⟨s2, ?_⟩
      rw [isNone_ok s1]
      exact post.sc x1 (.bl _) m
    · cases hx : x.d <;> simp only [hx] at m s1 <;> try exact m.elim
      exact .inr ⟨_, _, s1, s2, post.sc x1 (.bl _) m⟩
  | IsNot =>
    unfold cmpD at m
    cases hy : y.d <;> rw [hy] at m s2 <;> try exact m.elim
    · refine .inl ⟨s2, ?_⟩
      rw [isNone_ok s1]
      exact post.sc x1 (.bl _) m
    · cases hx : x.d <;> simp only [hx] at m s1 <;> try exact m.elim
      exact .inr ⟨_, _, s1, s2, post.sc x1 (.bl _) m⟩
  | In =>
    unfold cmpD at m
    cases hy : y.d.items with
    | none => simp only [hy] at m; exact m.elim
    | some ys =>
      simp only [hy] at m
      obtain ⟨⟨m1, m2⟩, m3⟩ := m
      obtain ⟨a, vs, rfl, h1, h2⟩ := s2.seq hy
      obtain ⟨e1, e2⟩ := s1.flat m1
      obtain ⟨e3, e4⟩ := h2.flat m2
      refine ⟨a, vs, rfl, h1, e2, e4, ?_⟩
      subst e1 e3
      exact post.sc x1 (.bl _) m3
  | NotIn =>
    unfold cmpD at m
    cases hy : y.d.items with
    | none => simp only [hy] at m; exact m.elim
    | some ys =>
      simp only [hy] at m
      obtain ⟨⟨m1, m2⟩, m3⟩ := m
      obtain ⟨a, vs, rfl, h1, h2⟩ := s2.seq hy
      obtain ⟨e1, e2⟩ := s1.flat m1
      obtain ⟨e3, e4⟩ := h2.flat m2
      refine ⟨a, vs, rfl, h1, e2, e4, ?_⟩
      subst e1 e3
      exact post.sc x1 (.bl _) m3
  | Lt => exact nums m fun _ _ => rfl
  | LtE => exact nums m fun _ _ => rfl
  | Gt => exact nums m fun _ _ => rfl
  | GtE => exact nums m fun _ _ => rfl

/-! ### items, slices -/
theorem atI_map {xs : List D} {vs : List V} {k : Int} {d : D} {F : Addr → Prop} {H : Hp} (h : RepL Θ F H vs xs) (e : atI xs k = some d) : ∃ v, atI vs k = some v ∧ Rep Θ F H v d := by
  unfold atI at e ⊢
  rw [h.length]
  cases q : ixN xs.length k with
  | none => rw [q] at e; cases e
  | some j => rw [q] at e; exact h.get (show xs[j]? = some d from e)
theorem idx_ok (post : Post Θ W σ Q F b H P E) (x1 : Ext Θ F b H F2 b2 H2) (r1 : RepR Θ H F2 H2 v x) (r2 : RepR Θ H F2 H2 u y) (m : idxD x y P E b2) : rIx Θ.K v u H2 Q := by
  have s1 := r1.sees
  have s2 := r2.sees
  unfold idxD at m
  cases hx : x.d.items with
  | none => simp only [hx] at m; exact m.elim
  | some xs =>
    simp only [hx] at m
    cases hy : y.d <;> simp only [hy] at m s2 <;> try exact m.elim
    rename_i k
    cases (show u = .int k from s2)
    cases hk : atI xs k with
    | none => simp only [hk] at m; exact m.elim
    | some d =>
      simp only [hk] at m
      obtain ⟨a, vs, rfl, h1, h2⟩ := s1.seq hx
      obtain ⟨w, e1, e2⟩ := atI_map h2 hk
      rcases h1 with h1 | h1
      · exact .inl ⟨a, vs, k, w, rfl, rfl, h1, e1, post.sc x1 e2 m⟩
      · exact .inr (.inl ⟨a, vs, k, w, rfl, rfl, h1, e1, post.sc x1 e2 m⟩)
theorem repK_lookup {kvs : List (Key × V)} {ds : List (Str × D)} {F : Addr → Prop} {H : Hp} {k : Str} {d : D} (h : RepK Θ F H kvs ds) (e : ds.lookup k = some d) : ∃ v, valV kvs (.inr k) = some v ∧ Rep Θ F H v d := by
  induction ds generalizing kvs with
  | nil => cases e
  | cons p ds ih =>
    obtain ⟨k', d'⟩ := p
    cases h with
    | @cons _ v _ vs _ a b =>
      rw [List.lookup_cons] at e
      by_cases q : k = k'
      · subst q
        simp at e
        subst e
        exact ⟨v, by rw [valV_pos rfl], a⟩
      · have q' : (k == k') = false := by simpa using q
        rw [q'] at e
        obtain ⟨w, e1, e2⟩ := ih b e
        exact ⟨w, by rw [valV_neg (fun z => q (Sum.inr.inj z).symm)]; exact e1, e2⟩
/-- a part of a key that is written -/
theorem key_ok {k : Str} (post : Post Θ W σ Q F b H P E) (x1 : Ext Θ F b H F2 b2 H2) (r1 : RepR Θ H F2 H2 v x) (m : keyD k x P E b2) : ∃ a v', v = .ref a ∧ DGet H2 a (.str k) (some v') ∧ Q v' H2 := by
  have s1 := r1.sees
  unfold keyD at m
  cases hx : x.d <;> simp only [hx] at m s1 <;> try exact m.elim
  rename_i kvs
  cases hk : kvs.lookup k with
  | none => simp only [hk] at m; exact m.elim
  | some d =>
    simp only [hk] at m
    obtain ⟨a, vs, rfl, h1, h2⟩ := s1
    obtain ⟨w, e1, e2⟩ := repK_lookup h2 hk
    exact ⟨a, w, rfl, by rw [← e1]; exact DGet.k (k := .inr k) h1, post.sc x1 e2 m⟩
def rSlc (K : PySem.W.Frag) : V → Option Int → Option Int → Hp → VK → Prop := fun x lo hi H Q => rSlL K x lo hi H Q ∨ rSlA K x lo hi H Q
theorem sl_seq {X : Cx} : SlR X (rSlc X.K) := sl_list.or sl_tupA
theorem cut_rep {xs : List D} {vs : List V} {F : Addr → Prop} {H : Hp} (h : RepL Θ F H vs xs) (lo hi : Option Int) : RepL Θ F H (cutV vs lo hi) (cutD xs lo hi) := by
  unfold cutV cutD
  rw [h.length]
  exact (h.drop _).take _
theorem slc_ok {lo hi : Option Int} (post : Post Θ W σ Q F b H P E) (x1 : Ext Θ F b H F2 b2 H2) (w : Wd Θ F b H) (w2 : Wd Θ F2 b2 H2) (r1 : RepR Θ H F2 H2 v x) (m : slcD x lo hi P E b2) : rSlc Θ.K v lo hi H2 Q := by
  have s1 := r1.sees
  unfold slcD at m
  cases hx : x.d <;> simp only [hx] at m s1 <;> try exact m.elim
  · rename_i xs
    have q1 := tup_keep r1 hx
    obtain ⟨a, vs, rfl, h1, h2⟩ := s1
    refine .inr ⟨a, vs, rfl, h1, fun z => ?_, fun _ p np => post.tupN x1 w w2 (cut_rep h2 lo hi) m np⟩
    have e : cutD xs lo hi = xs := by
      unfold cutD
      rw [h2.length] at z
      rw [z.1, z.2]
      simp
    rw [e] at m
    exact post.sc x1 q1 m
  · rename_i xs
    obtain ⟨a, vs, rfl, h1, h2⟩ := s1
    exact .inl ⟨a, vs, rfl, SqL.of h1, fun p np => post.frsL x1 w w2 (cut_rep h2 lo hi) m np⟩
theorem repF_lookup {fs : List (Str × V)} {ds : List (Str × D)} {F : Addr → Prop} {H : Hp} {k : Str} {d : D} (h : RepF Θ F H fs ds) (e : ds.lookup k = some d) : ∃ v, fs.lookup k = some v ∧ Rep Θ F H v d := by
  induction ds generalizing fs with
  | nil => cases e
  | cons p ds ih =>
    obtain ⟨k', d'⟩ := p
    cases h with
    | @cons _ v _ vs _ a b =>
      rw [List.lookup_cons] at e ⊢
      cases q : k == k' with
      | true => rw [q] at e; cases e; exact ⟨v, rfl, a⟩
      | false => rw [q] at e; exact ih b e
theorem fld_ok {f : Str} (hc : ∀ c ∈ Θ.ins, ∀ C, Θ.glb c = some C → Cls Θ.K C ∧ ∀ f ∈ Θ.flds, NoAttr Θ.K C f) (hf : f ∈ Θ.flds) (post : Post Θ W σ Q F b H P E) (x1 : Ext Θ F b H F2 b2 H2) (r1 : RepR Θ H F2 H2 v x) (m : fldD x f P E b2) :
    ∃ a C dx fs w, v = .ref a ∧ H2 a = some (.ins C dx fs) ∧ Cls Θ.K C ∧ NoAttr Θ.K C f ∧ fs.lookup f = some w ∧ Q w H2 := by
  have s1 := r1.sees
  unfold fldD at m
  cases hx : x.d <;> simp only [hx] at m s1 <;> try exact m.elim
  rename_i c ds
  cases hk : ds.lookup f with
  | none => simp only [hk] at m; exact m.elim
  | some d =>
    simp only [hk] at m
    obtain ⟨a, C, dx, fs, rfl, h1, h2, h3⟩ := s1
    obtain ⟨w, e1, e2⟩ := repF_lookup h3 hk
    obtain ⟨q1, q2⟩ := hc c h2.1 C h2.2
    exact ⟨a, C, dx, fs, w, rfl, h1, q1, q2 f hf, e1, post.sc x1 e2 m⟩
end
end VL
end
-- V5
section
set_option Elab.async false
set_option linter.all false
set_option maxRecDepth 100000
set_option maxHeartbeats 4000000
/-! Soundness: terms and the text's expressions. -/
namespace VL
open PySem PySem.Spec PyProof.Rows
open L2 hiding St

/-! ### the text's side conditions -/
def notStar : Expr → Bool
  | .Starred .. => false
  | _ => true
theorem starEach_ns {e : Expr} {es : List Expr} {env : Env} (h : notStar e = true) : starEach (e :: es) env = (false, eval e env) :: starEach es env := by
  cases e <;> first | rfl | cases h
theorem plain_ns {es : List Expr} {env : Env} {pos : Pos} (h : es.all notStar = true) : (backTo pos (starEach es env)).any (·.1) = false := by
  induction es with
  | nil => rfl
  | cons e es ih =>
    rw [List.all_cons, Bool.and_eq_true] at h
    rw [starEach_ns h.1]
    show (false || (backTo pos (starEach es env)).any (·.1)) = false
    rw [ih h.2]; rfl
def attrPlain : Expr → Bool
  | .Call _ (_ :: _) _ _ => true
  | .Call .. => false
  | _ => true
theorem attr_plain {e : Expr} {f : Str} {env : Env} (h : attrPlain e = true) : attributeBase e f env (eval e env) = eval e env := by
  cases e with
  | Call g as kw p =>
    cases as with
    | nil => cases h
    | cons a as => cases g <;> rfl
  | _ => rfl
def notSlice : Expr → Bool
  | .Slice .. => false
  | _ => true
theorem plain_ix {e : Expr} (h : notSlice e = true) : PlainIx e := fun o i => by
  cases e <;> first | rfl | cases h
def notSet : Expr → Bool
  | .Set .. => false
  | _ => true
theorem notSet_marks {e : Expr} (op : CmpOp) (h : notSet e = true) : behindInMarks op e = false := by
  cases e <;> first | rfl | cases h
/-- a test that is its value's truth -/
def plainTest : Expr → Bool
  | .UnaryOp .Not _ _ => false
  | .BoolOp .. => false
  | .IfExp .. => false
  | .Compare .. => false
  | _ => true
theorem plain_test {e : Expr} {env : Env} (h : plainTest e = true) (whole : Sem Value) : isTrue e env whole = (do let v ← whole; standAt e.pos; holding [v] (truthy v)) := by
  cases e with
  | UnaryOp op x p => cases op <;> first | rfl | cases h
  | BoolOp => cases h
  | IfExp => cases h
  | Compare => cases h
  | _ => rfl

/-! ### calls by value -/
/-- a name of the module that may be called: with such values, in such a heap -/
def Cal (Y : Wo) (k : Nat) (x : Str) (sp : Sp) : Prop :=
  ∃ a, Y.mg x = some (.ref a) ∧ PySem.W.keepIn Y.K (.ref a) = true ∧ (∀ (X : Cx), X.prog = Y.P → X.w = Y.w → X.K = Y.K → X.mg = Y.mg → X.base = Y.base → Room k X.A → X.A.guards = some [] → ∀ (W : WX), Takes X W →
    ∀ (pins : List (Addr × Obj)) (s : Shared) (σ : St) (H : Hp) (us : List Value) (vs : List V) (Q : VK), Inv X pins σ H s → Vals vs us → sp vs H Q (fun cls d H' => W cls d σ H') →
      wpAny (model X.prog X.w) X.A (call (.ref a) us) (EP X pins σ Q) X.xe s) ∧
  ∀ (A : Around) (fr : List Env) (s : Shared) (H : Hp) (us : List Value) (vs : List V) (Q : VK) (E : XK), Room k A → A.guards = some [] → Env0 Y.P Y.w Y.K Y.mg Y.base A fr s H → Vals vs us → sp vs H Q E →
    codeAny (model Y.P Y.w) A (.call (.ref a) ⟨us, []⟩) (CR (L2.CX Y.P Y.w) fr Y.P Y.w H s Q E) s
/-- the promise of a computation -/
def spM (Θ : Th) (m : List D → M R) : Sp := fun vs H Q E => ∃ pa pc cm F b ds P' E', ∃ Θ' : Th, Θ' = { Θ with pa := pa, pc := pc, cm := cm, cells := none } ∧ RepL Θ' F H vs ds ∧ Wd Θ' F b H ∧ m ds P' E' b ∧
  (∀ r b', P' r b' → ∀ v F' H', Ext Θ' F b H F' b' H' → RepR Θ' H F' H' v r → Q v H') ∧ (∀ x b', E' x b' → ∀ cls d F' H', Ext Θ' F b H F' b' H' → RepX Θ' F' H' cls d x → E cls d H')
/-- a def computes m -/
def FnM (Y : Wo) (Θ : Th) (k : Nat) (x : Str) (m : List D → M R) : Prop := Cal Y k x (spM Θ m)
/-- a constant of the module -/
def GloOk (Y : Wo) (Θ : Th) (x : Str) (d : D) : Prop := ∃ u v, Y.mg x = some u ∧ RelV v u ∧ ∀ Θ' : Th, Θ'.K = Θ.K → Θ'.glb = Θ.glb → ∀ F H, Rep Θ' F H v d
/-- what is alike in all frames -/
def core (Θ : Th) : Th := { Θ with pa := none, pc := 0, cm := fun _ => none, cells := none }
mutual
/-- the defs that a term calls -/
def CallsOk (Y : Wo) (Θ : Th) (k : Nat) : E → Prop
  | .bin _ a b => CallsOk Y Θ k a ∧ CallsOk Y Θ k b
  | .neg a => CallsOk Y Θ k a
  | .not a => CallsOk Y Θ k a
  | .and es => CallsOks Y Θ k es
  | .or es => CallsOks Y Θ k es
  | .ite t a b => CallsOk Y Θ k t ∧ CallsOk Y Θ k a ∧ CallsOk Y Θ k b
  | .cmp _ a b => CallsOk Y Θ k a ∧ CallsOk Y Θ k b
  | .chain _ _ a b c => CallsOk Y Θ k a ∧ CallsOk Y Θ k b ∧ CallsOk Y Θ k c
  | .tup es => CallsOks Y Θ k es
  | .lst es => CallsOks Y Θ k es
  | .dct _ es => CallsOks Y Θ k es
  | .idx a i => CallsOk Y Θ k a ∧ CallsOk Y Θ k i
  | .key a _ => CallsOk Y Θ k a
  | .slc a lo hi => CallsOk Y Θ k a ∧ CallsOko Y Θ k lo ∧ CallsOko Y Θ k hi
  | .fld a _ => CallsOk Y Θ k a
  | .call x m es => FnM Y Θ k x m ∧ CallsOks Y Θ k es
  | .callC x m es _ _ => FnM Y Θ k x m ∧ CallsOks Y Θ k es
  | .bi _ a b => CallsOk Y Θ k a ∧ CallsOko Y Θ k b
  | .isi a _ => CallsOk Y Θ k a
  | .glo x d => GloOk Y Θ x d
  | .comp elt _ _ its ifs _ => CallsOk Y Θ k elt ∧ CallsOks Y Θ k its ∧ CallsOko Y Θ k ifs
  | _ => True
def CallsOks (Y : Wo) (Θ : Th) (k : Nat) : List E → Prop
  | [] => True
  | e :: es => CallsOk Y Θ k e ∧ CallsOks Y Θ k es
def CallsOko (Y : Wo) (Θ : Th) (k : Nat) : Option E → Prop
  | none => True
  | some e => CallsOk Y Θ k e
end

section
variable {X : Cx} {Y : Wo} {Θ : Th} {k : Nat} {N : List Str} {sc : Scope} {W : WX} {e : En}
/-! ### lists of terms -/
section
variable {F F' F2 : Addr → Prop} {b b' b2 : Nat} {H H' H2 : Hp}
theorem RepRs.ext {vs : List V} {rs : List R} (h : RepRs Θ H F' H' vs rs) (x : Ext Θ F' b' H' F2 b2 H2) (w : Wd Θ F' b' H') : RepRs Θ H F2 H2 vs rs := by
  induction h with
  | nil => exact .nil
  | cons a _ p ih => exact .cons (a.ext x w) ih p
theorem RepRs.base {vs : List V} {rs : List R} {F0 F1 : Addr → Prop} {b0 b1 : Nat} {H0 : Hp} (h : RepRs Θ H F' H' vs rs) (y : Ext Θ F0 b0 H0 F1 b1 H) : RepRs Θ H0 F' H' vs rs := by
  induction h with
  | nil => exact .nil
  | cons a _ p ih => exact .cons (a.base y) ih p
/-- new objects among values stay from now on -/
def fixed (F' : Addr → Prop) (H H' : Hp) (vs : List V) : Addr → Prop := fun a => F' a ∨ (V.ref a ∈ vs ∧ H a = none ∧ ∃ o, H' a = some o ∧ NoTab o)
theorem fixed_ext {vs : List V} (x : Ext Θ F b H F' b' H') : Ext Θ F b H (fixed F' H H' vs) b' H' :=
  { x with
    f := fun a h => .inl (x.f a h)
    n := fun a h => by
      rcases h with h | ⟨_, h⟩
      · exact x.n a h
      · exact .inr ⟨.inl h.1, h.2⟩ }
theorem kept_ok {vs : List V} {rs : List R} {P : List D → Nat → Prop} {E : XD → Nat → Prop} {b2 : Nat} (h : RepRs Θ H F' H' vs rs) (m : keptAll rs P E b2) : ∃ ds, P ds b2 ∧ ∀ G : List V, (∀ v ∈ vs, v ∈ G) → RepL Θ (fixed F' H H' G) H' vs ds := by
  induction h generalizing P with
  | nil => exact ⟨[], m, fun _ _ => .nil⟩
  | @cons v r vs rs a h2 _ ih =>
    have one : ∃ d, r.kept = ret d ∧ ∀ G : List V, v ∈ G → Rep Θ (fixed F' H H' G) H' v d := by
      cases r with
      | val d => exact ⟨d, rfl, fun G _ => Rep.more a fun _ z => .inl z⟩
      | own d => exact (show False from m).elim
      | frs d =>
        refine ⟨d, rfl, fun G hG => ?_⟩
        obtain ⟨p, ev, n, pp, t, c⟩ := a
        subst ev
        obtain ⟨o, ho, no⟩ := c.there
        exact (c.mono (fun _ z => .inl z) (fun _ _ _ e => e) fun _ e => e).rep (.inr ⟨hG, t, o, ho, no⟩)
    obtain ⟨d, e1, k1⟩ := one
    have m2 : keptAll rs (fun ds b' => P (d :: ds) b') E b2 := by
      have m' : bnd r.kept (fun d => bnd (keptAll rs) fun ds => ret (d :: ds)) P E b2 := m
      rw [e1] at m'
      exact m'
    obtain ⟨ds, p, q⟩ := ih m2
    exact ⟨d :: ds, p, fun G hG => .cons (k1 G (hG _ List.mem_cons_self)) (q G fun v hv => hG v (List.mem_cons_of_mem _ hv))⟩
theorem RepRs.length {vs : List V} {rs : List R} (h : RepRs Θ H F' H' vs rs) : vs.length = rs.length := by
  induction h with
  | nil => rfl
  | cons _ _ _ ih => rw [List.length_cons, List.length_cons, ih]
end
theorem RepRs.frs_none {F' : Addr → Prop} {H H' : Hp} {vs : List V} {rs : List R} {j : Nat} {d : D} {a : Addr} (h : RepRs Θ H F' H' vs rs) (e1 : rs[j]? = some (.frs d)) (e2 : vs[j]? = some (.ref a)) : H a = none := by
  induction h generalizing j with
  | nil => simp at e1
  | cons r _ _ ih =>
    cases j with
    | zero =>
      simp at e1 e2
      subst e1 e2
      obtain ⟨a', e, _, _, t, _⟩ := r
      cases e
      exact t
    | succ j => exact ih (by simpa using e1) (by simpa using e2)
theorem RepR.frs_there {F' : Addr → Prop} {H H' : Hp} {r : R} {d : D} {a : Addr} {v : V} (h : RepR Θ H F' H' v r) (e1 : r = .frs d) (e2 : v = .ref a) : ∃ o, H' a = some o := by
  subst e1 e2
  obtain ⟨a', e, _, _, t, c⟩ := h
  cases e
  obtain ⟨o, ho, _⟩ := c.there
  exact ⟨o, ho⟩
theorem ap_of {F1 F2 : Addr → Prop} {H H1 H2 : Hp} {v : V} {r : R} {vs : List V} {rs : List R} (h1 : RepR Θ H F1 H1 v r) (h2 : RepRs Θ H1 F2 H2 vs rs) : ApV v r vs rs := fun a d e1 e2 j d2 q1 q2 => by
  obtain ⟨o, ho⟩ := h1.frs_there e1 e2
  rw [h2.frs_none q1 q2] at ho; cases ho
theorem a_nil : PA X [] (tVs Θ e W (evs [])) := paI pa_nil fun σ H Q h => by
  obtain ⟨F, b, ρ, P, E, ok, m, p1, p2⟩ := h
  exact p1 _ _ m _ _ _ .refl .nil
theorem a_cons {x : E} {xs : List E} {a : Expr} {as : List Expr} (h1 : PE X a (tV Θ e W (ev x))) (h2 : PA X as (tVs Θ e W (evs xs))) (hs : notStar a = true) : PA X (a :: as) (tVs Θ e W (evs (x :: xs))) :=
  paI (pa_cons h1 h2 (starEach_ns hs)) fun σ H Q h => by
    obtain ⟨F, b, ρ, P, E, ok, m, p1, p2⟩ := h
    refine ⟨F, b, ρ, _, E, ok, m, ⟨fun r b1 m1 v F1 H1 x1 r1 => ?_, p2⟩⟩
    have ok1 := ok.ext x1
    refine ⟨F1, b1, ρ, _, E, ok1, m1, fun rs b2 m2 vs F2 H2 x2 r2 => ?_, ex_ext ok.wd x1 p2⟩
    exact p1 _ _ m2 _ _ _ (x1.trans x2 ok.wd) (.cons (r1.ext x2 ok1.wd) (r2.base x1) (ap_of r1 r2))
/-- what the items of a display, of a call come to -/
theorem args_kept {σ : St} {H : Hp} {fs : Env' → M (List R)} {g : List D → M R} {Q : VK} {T : List V → Hp → Prop} (h : tV Θ e W (fun ρ => bnd (fs ρ) fun rs => bnd (keptAll rs) g) σ H Q)
    (rule : ∀ {F F2 : Addr → Prop} {b b2 : Nat} {H2 : Hp} {P : R → Nat → Prop} {E : XD → Nat → Prop} {vs : List V} {ds : List D}, Post Θ W σ Q F b H P E → Ext Θ F b H F2 b2 H2 → Wd Θ F b H → Wd Θ F2 b2 H2 → RepL Θ F2 H2 vs ds → g ds P E b2 → T vs H2) :
    tVs Θ e W fs σ H T := by
  obtain ⟨F, b, ρ, P, E, ok, m, post⟩ := h
  refine ⟨F, b, ρ, _, E, ok, m, fun rs b1 m1 vs F1 H1 x1 r1 => ?_, post.ex⟩
  obtain ⟨ds, m2, k⟩ := kept_ok r1 m1
  have x2 := fixed_ext (vs := vs) x1
  exact rule post x2 ok.wd (ok.wd.ext x2) (k vs fun _ h => h) m2
theorem e_tup {xs : List E} {as : List Expr} {kk : Nat} {pos : Pos} (h : PA X as (tVs Θ e W (evs xs))) : PE X (.Tuple as kk pos) (tV Θ e W (ev (.tup xs))) :=
  peI (pe_tup h) fun σ H Q h => args_kept (T := fun xs H1 => xs.length ≤ sizeLine ∧ ∀ p, H1 p = none → Q (.ref p) (upd H1 p (.tup xs))) h fun post x w w2 rl m => ⟨by rw [rl.length]; exact m.1, fun p np => post.tupN x w w2 rl m.2 np⟩
theorem e_lst {xs : List E} {as : List Expr} {pos : Pos} (h : PA X as (tVs Θ e W (evs xs))) : PE X (.List as pos) (tV Θ e W (ev (.lst xs))) :=
  peI (pe_lst h) fun σ H Q h => args_kept (T := fun xs H1 => xs.length ≤ sizeLine ∧ ∀ p, H1 p = none → Q (.ref p) (upd H1 p (.lst xs))) h fun post x w w2 rl m => ⟨by rw [rl.length]; exact m.1, fun p np => post.frsL x w w2 rl m.2 np⟩
/-- f(a, ..) -/
theorem e_call {x : Str} {m : List D → M R} {xs : List E} {a : Expr} {as : List Expr} {p pos : Pos} (hcell : Θ.cells = none) (G : XG X Y Θ k N sc W) (hc : FnM Y Θ k x m) (hg : glB sc x = true) (hp : plainName x = true) (h : PA X (a :: as) (tVs Θ e W (evs xs))) (hs : (a :: as).all notStar = true) :
    PE X (.Call (.Name x p) (a :: as) [] pos) (tV Θ e W (ev (.call x m xs))) := by
  obtain ⟨f, hm, hk, run, _⟩ := hc
  rw [List.all_cons, Bool.and_eq_true] at hs
  refine ⟨fun pins s σ H Q I hq => ?_⟩
  refine wpAny_Call_Name_kw (ld_glob I (gl_of (by rw [G.hs]; exact hg)) (by rw [G.hmg]; exact hm) ?_ (plainName_debug hp).1)
  have hq2 := args_kept (T := fun vs H1 => spM Θ m vs H1 Q (fun cls d H' => W cls d σ H')) hq fun {F F2 b b2 H2 P E vs ds} post x w w2 rl mm => ⟨Θ.pa, Θ.pc, Θ.cm, F2, b2, ds, _, E, Θ, by rw [← hcell], rl, w2, mm,
    fun d b' hp v F' H' x2 r => post.ok _ _ hp _ _ _ (x.trans x2 w) (r.base x), fun z b' hz cls d F' H' x2 r => post.ex z b' hz cls d F' H' (x.trans x2 w) r⟩
  refine PySem.W.callWith_K (h₀ := X.base) I.ok.mod.kin (by rw [G.hKY]; exact hk) (thn (h.run pos pins s σ H _ I hq2) fun us s1 ⟨vs, H1, I1, r, q⟩ => ⟨I1.kIn, ?_⟩) (starEach_ns hs.1) (plain_ns hs.2)
  exact run X G.hP G.hw G.hKY G.hmg G.hbase G.room G.grd W G.tk pins s1 σ H1 us vs Q I1 r q
theorem e_call0 {x : Str} {m : List D → M R} {p pos : Pos} (hcell : Θ.cells = none) (G : XG X Y Θ k N sc W) (hc : FnM Y Θ k x m) (hg : glB sc x = true) (hp : plainName x = true) :
    PE X (.Call (.Name x p) [] [] pos) (tV Θ e W (ev (.call x m []))) := by
  obtain ⟨f, hm, hk, run, _⟩ := hc
  refine ⟨fun pins s σ H Q I hq => ?_⟩
  refine wpAny_Call_Name_kw (ld_glob I (gl_of (by rw [G.hs]; exact hg)) (by rw [G.hmg]; exact hm) ?_ (plainName_debug hp).1)
  have hq2 := args_kept (T := fun vs H1 => spM Θ m vs H1 Q (fun cls d H' => W cls d σ H')) hq fun {F F2 b b2 H2 P E vs ds} post x w w2 rl mm => ⟨Θ.pa, Θ.pc, Θ.cm, F2, b2, ds, _, E, Θ, by rw [← hcell], rl, w2, mm,
    fun d b' hp v F' H' x2 r => post.ok _ _ hp _ _ _ (x.trans x2 w) (r.base x), fun z b' hz cls d F' H' x2 r => post.ex z b' hz cls d F' H' (x.trans x2 w) r⟩
  refine PySem.W.callWith_K0 I.kIn (by rw [G.hKY]; exact hk) ?_
  obtain ⟨F, b, ρ, P, E, ok, m, p1, p2⟩ := hq2
  exact run X G.hP G.hw G.hKY G.hmg G.hbase G.room G.grd W G.tk pins s σ H [] [] Q I .nil (p1 _ _ m _ _ _ .refl .nil)

/-! ### built-in functions -/
theorem free_mg (G : XG X Y Θ k N sc W) {x : Str} (h : x ∈ freeNames) : X.mg x = none := G.free x h
theorem boolsOf_ok {F : Addr → Prop} {H : Hp} {ds : List D} {vs : List V} {bs : List Bool} (h : RepL Θ F H vs ds) (e : boolsOf ds = some bs) : vs = bs.map V.bl := by
  induction ds generalizing vs bs with
  | nil => cases h; cases e; rfl
  | cons d ds ih =>
    cases h with
    | cons a b =>
      cases d <;> try cases e
      rename_i t
      obtain ⟨r, e1, rfl⟩ := map_some (show (boolsOf ds).map (t :: ·) = _ from e)
      cases a
      rw [ih b e1]; rfl
def one (r : V → Hp → VK → Prop) : List V → Hp → VK → Prop := fun xs H Q => ∃ v, xs = [v] ∧ r v H Q
def rLen (K : PySem.W.Frag) : List V → Hp → VK → Prop := fun xs H Q => ∃ p ys, xs = [.ref p] ∧ (SqL K H p ys ∨ SqT K H p ys) ∧ Q (.int ys.length) H
def rRepr (Θ : Th) : List V → Hp → VK → Prop := fun xs H Q => ∃ F v d p, xs = [v] ∧ Sees Θ F H v d ∧ d.pyr = some p ∧ p.showable = true ∧ p.shown.length ≤ sizeLine ∧ p.depth ≤ 64 ∧ (p.hasDict = false ∨ d.noLst = true) ∧ Q (.str p.shown) H
theorem call_repr (hK : X.K = Θ.K) (hu : X.A.units + 128 < cLine) (hg : X.A.guards = some []) : CallR X (.builtin "repr") (rRepr Θ) := by
  intro pins s σ H xs us Q I r h
  obtain ⟨F, v, d, p, rfl, hd, hpy, hs, hz, hdp, hnl, q⟩ := h
  obtain ⟨u, rfl, ru⟩ := vals1 r
  obtain ⟨as, hr, hno'⟩ := Sees.rd I hK hd hpy ru
  have hno : p.hasDict = true → sysModules ∉ as := fun z => hnl.elim (fun y => by rw [y] at z; cases z) hno'
  clear hno' hnl hd hpy
  have fin : ∀ h' tk, (∀ b o, s.heap.get? b = some o → h'.get? b = some o) → ∀ t, EP X pins σ Q (.str p.shown t) { s with heap := h', toks := tk } := fun h' tk k t => ⟨.str p.shown, H, I.kept k, ⟨t, rfl⟩, q⟩
  cases hr with
  | none => exact PySem.P.repr_of_none (by simp only [PyData.shown] at q; exact ⟨.str _, H, I.tok _, ⟨_, rfl⟩, q⟩)
  | bool b => exact PySem.P.repr_of_bool (by simp only [PyData.shown] at q; exact ⟨.str _, H, I.tok _, ⟨_, rfl⟩, q⟩)
  | int i t => exact PySem.P.repr_of_int (by simpa [PyData.showable] using hs) (by simp only [PyData.shown] at q; exact ⟨.str _, H, I.tok _, ⟨_, rfl⟩, q⟩)
  | str x t => exact PySem.P.repr_of_str (by simp only [PyData.shown] at q; exact ⟨.str _, H, I.tok _, ⟨_, rfl⟩, q⟩) (by simpa only [PyData.shown] using hz)
  | list h1 h2 h3 h4 => exact repr_of_reads' (Reads.list h1 h2 h3 h4) hs hno hg (by omega) (fun _ _ e => e) (fun h' u tk k => fin h' tk k u) hz
  | tuple h1 h2 h3 h4 => exact repr_of_reads' (Reads.tuple h1 h2 h3 h4) hs hno hg (by omega) (fun _ _ e => e) (fun h' u tk k => fin h' tk k u) hz
  | dict h1 h2 h3 h4 h5 => exact repr_of_reads' (Reads.dict h1 h2 h3 h4 h5) hs hno hg (by omega) (fun _ _ e => e) (fun h' u tk k => fin h' tk k u) hz

/-- the name of a built-in function, and whether it is a type -/
def Bi.nm : Bi → Str
  | .len => "len" | .tuple => "tuple" | .list => "list" | .all => "all" | .any => "any" | .int => "int" | .abs => "abs" | .repr => "repr" | .gcd => "gcd" | .str => "str" | .bits => "bit_length"
section
variable {σ : St} {Q : VK} {F F2 : Addr → Prop} {b b2 : Nat} {H H2 : Hp} {P : R → Nat → Prop} {E : XD → Nat → Prop} {v u : V} {x y : R}
theorem items_ok {d : D} (h : Sees Θ F H v d) {g : List D → M R} (m : (match d.items with
    | some xs => g xs
    | none => fail) P E b) : ∃ a vs xs, v = .ref a ∧ (SqL Θ.K H a vs ∨ SqT Θ.K H a vs) ∧ RepL Θ F H vs xs ∧ d.items = some xs ∧ g xs P E b := by
  cases e : d.items with
  | none => simp only [e] at m; exact m.elim
  | some xs =>
    simp only [e] at m
    obtain ⟨a, vs, h1, h2, h3⟩ := h.seq e
    exact ⟨a, vs, xs, h1, h2, h3, rfl, m⟩
end
/-- f(a) of a built-in function, its argument a term -/
theorem bi_un {f : Bi} {a : Expr} {xa : E} {r : V → Hp → VK → Prop} (rule : ∀ {σ : St} {Q : VK} {F F2 : Addr → Prop} {b b2 : Nat} {H H2 : Hp} {P : R → Nat → Prop} {E : XD → Nat → Prop} {v : V} {x : R}, Post Θ W σ Q F b H P E → Ext Θ F b H F2 b2 H2 → Wd Θ F b H → Wd Θ F2 b2 H2 →
      RepR Θ H F2 H2 v x → biD f x none P E b2 → r v H2 Q) (σ : St) (H : Hp) (Q : VK) (h : tV Θ e W (ev (.bi f xa none)) σ H Q) : tCons (tV Θ e W (ev xa)) tNil σ H (fun vs H1 => one r vs H1 Q) := by
  refine v_un (r := fun v H1 Q => one r [v] H1 Q) (fun post x1 w w2 r1 m => ⟨_, rfl, rule post x1 w w2 r1 m⟩) σ H Q h
theorem e_bi {f : Bi} {x : Str} {a : Expr} {xa : E} {p pos : Pos} (G : XG X Y Θ k N sc W) (hx : x = f.nm) (hf : f ≠ .gcd ∧ f ≠ .bits) (hg : glB sc x = true) (ha : PE X a (tV Θ e W (ev xa))) (hs : notStar a = true) : PE X (.Call (.Name x p) [a] [] pos) (tV Θ e W (ev (.bi f xa none))) := by
  have hg' : Gl X x := gl_of (by rw [G.hs]; exact hg)
  have st := starEach_ns (es := []) (env := X.env) hs
  have hpa : PA X [a] (tCons (tV Θ e W (ev xa)) tNil) := pa_cons ha pa_nil st
  have hu := G.room.un
  subst hx
  cases f with
  | len =>
    refine peI (pe_callB call_len_seq hg' (free_mg G (by decide)) boot_len hpa (by decide) (by decide) st rfl) fun σ H Q h => ?_
    refine v_un (r := fun v H1 Q => ∃ p ys, [v] = [V.ref p] ∧ (SqL X.K H1 p ys ∨ SqT X.K H1 p ys) ∧ Q (.int ys.length) H1) (fun post x1 w w2 r1 m => ?_) σ H Q h
    obtain ⟨a, vs, xs, rfl, h1, h2, _, m⟩ := items_ok r1.sees m
    rw [G.hK]
    exact ⟨a, vs, rfl, h1, by rw [h2.length]; exact post.sc x1 (.int _) m⟩
  | tuple =>
    refine peI (pe_callTy call_tuple_of hg' (free_mg G (by decide)) (by decide +kernel) hpa (by decide) (by decide) st rfl) fun σ H Q h => ?_
    refine v_un (r := fun v H1 Q => ∃ p ys, [v] = [V.ref p] ∧ ((SqL X.K H1 p ys ∧ ∀ l, H1 l = none → Q (.ref l) (upd H1 l (.tup ys))) ∨ (SqT X.K H1 p ys ∧ Q (.ref p) H1))) (fun {σ Q F F2 b b2 H H2 P E v x} post x1 w w2 r1 m => ?_) σ H Q h
    have s1 := r1.sees
    rw [G.hK]
    have m' : (match x.d.items with
      | some xs => ret (R.val (D.tup xs))
      | none => (fail : M R)) P E b2 := m
    cases hd : x.d <;> simp only [hd, D.items] at m' s1 <;> try exact m'.elim
    · have q := tup_keep r1 hd
      obtain ⟨a, vs, rfl, h1, h2⟩ := s1
      exact ⟨a, vs, rfl, .inr ⟨h1, post.sc x1 q m'⟩⟩
    · obtain ⟨a, vs, rfl, h1, h2⟩ := s1
      exact ⟨a, vs, rfl, .inl ⟨SqL.of h1, fun p np => post.tupN x1 w w2 h2 m' np⟩⟩
  | list =>
    refine peI (pe_callTy call_list_of hg' (free_mg G (by decide)) (by decide +kernel) hpa (by decide) (by decide) st rfl) fun σ H Q h => ?_
    refine v_un (r := fun v H1 Q => ∃ p ys, [v] = [V.ref p] ∧ (SqL X.K H1 p ys ∨ SqT X.K H1 p ys) ∧ ∀ l, H1 l = none → Q (.ref l) (upd H1 l (.lst ys))) (fun post x1 w w2 r1 m => ?_) σ H Q h
    obtain ⟨a, vs, xs, rfl, h1, h2, _, m⟩ := items_ok r1.sees m
    rw [G.hK]
    exact ⟨a, vs, rfl, h1, fun p np => post.frsL x1 w w2 h2 m np⟩
  | all =>
    refine peI (pe_callB (cr_all G.calm) hg' (free_mg G (by decide)) (by decide +kernel) hpa (by decide) (by decide) st rfl) fun σ H Q h => ?_
    refine v_un (r := fun v H1 Q => rAll X.K [v] H1 Q) (fun {σ Q F F2 b b2 H H2 P E v x} post x1 w w2 r1 m => ?_) σ H Q h
    have s1 := r1.sees
    unfold biD at m
    cases hd : x.d <;> simp only [hd] at m s1 <;> try exact m.elim
    rename_i ds
    cases hb : boolsOf ds with
    | none => simp only [hb] at m; exact m.elim
    | some bs =>
      simp only [hb] at m
      obtain ⟨a, vs, rfl, h1, h2⟩ := s1
      have ev := boolsOf_ok h2 hb
      subst ev
      exact ⟨a, bs, rfl, SqL.of h1, post.sc x1 (.bl _) m⟩
  | any =>
    refine peI (pe_callB (cr_any G.calm) hg' (free_mg G (by decide)) (by decide +kernel) hpa (by decide) (by decide) st rfl) fun σ H Q h => ?_
    refine v_un (r := fun v H1 Q => rAny X.K [v] H1 Q) (fun {σ Q F F2 b b2 H H2 P E v x} post x1 w w2 r1 m => ?_) σ H Q h
    have s1 := r1.sees
    unfold biD at m
    cases hd : x.d <;> simp only [hd] at m s1 <;> try exact m.elim
    rename_i ds
    cases hb : boolsOf ds with
    | none => simp only [hb] at m; exact m.elim
    | some bs =>
      simp only [hb] at m
      obtain ⟨a, vs, rfl, h1, h2⟩ := s1
      have ev := boolsOf_ok h2 hb
      subst ev
      exact ⟨a, bs, rfl, SqL.of h1, post.sc x1 (.bl _) m⟩
  | int =>
    refine peI (pe_callTy call_int1 hg' (free_mg G (by decide)) (by decide +kernel) hpa (by decide) (by decide) st rfl) fun σ H Q h => ?_
    refine v_un (r := fun v H1 Q => (∃ i, [v] = [V.int i] ∧ Q (.int i) H1) ∨ ∃ k, [v] = [V.bl k] ∧ Q (.int (if k then 1 else 0)) H1) (fun {σ Q F F2 b b2 H H2 P E v x} post x1 w w2 r1 m => ?_) σ H Q h
    have s1 := r1.sees
    unfold biD at m
    cases hd : x.d <;> simp only [hd] at m s1 <;> try exact m.elim
    · rename_i t
      cases (show v = .bl t from s1)
      refine .inr ⟨t, rfl, ?_⟩
      have q := post.sc x1 (.int _) m
      cases t <;> exact q
    · rename_i i
      cases (show v = .int i from s1)
      exact .inl ⟨i, rfl, post.sc x1 (.int _) m⟩
  | abs =>
    refine peI (pe_callB call_abs hg' (free_mg G (by decide)) (by decide +kernel) hpa (by decide) (by decide) st rfl) fun σ H Q h => ?_
    refine v_un (r := fun v H1 Q => ∃ i, [v] = [V.int i] ∧ Q (.int (if i < 0 then -i else i)) H1) (fun {σ Q F F2 b b2 H H2 P E v x} post x1 w w2 r1 m => ?_) σ H Q h
    have s1 := r1.sees
    unfold biD at m
    cases hd : x.d <;> simp only [hd] at m s1 <;> try exact m.elim
    rename_i i
    cases (show v = .int i from s1)
    exact ⟨i, rfl, post.sc x1 (.int _) m⟩
  | repr =>
    refine peI (pe_callB (call_repr G.hK (by omega) G.grd) hg' (free_mg G (by decide)) (by decide +kernel) hpa (by decide) (by decide) st rfl) fun σ H Q h => ?_
    refine v_un (r := fun v H1 Q => rRepr Θ [v] H1 Q) (fun {σ Q F F2 b b2 H H2 P E v x} post x1 w w2 r1 m => ?_) σ H Q h
    have s1 := r1.sees
    unfold biD at m
    cases hp : x.d.pyr with
    | none => simp only [hp] at m; exact m.elim
    | some p =>
      simp only [hp] at m
      obtain ⟨⟨m1, m2, m3, m4⟩, m5⟩ := m
      exact ⟨F2, v, _, p, rfl, s1, hp, m1, m2, m3, m4, post.sc x1 (.str _) m5⟩
  | str =>
    refine peI (pe_callTy call_str_int hg' (free_mg G (by decide)) (by decide +kernel) hpa (by decide) (by decide) st rfl) fun σ H Q h => ?_
    refine v_un (r := fun v H1 Q => ∃ i, [v] = [V.int i] ∧ i.natAbs.log2 < 1920 ∧ Q (.str (toString i)) H1) (fun {σ Q F F2 b b2 H H2 P E v x} post x1 w w2 r1 m => ?_) σ H Q h
    have s1 := r1.sees
    unfold biD at m
    cases hd : x.d <;> simp only [hd] at m s1 <;> try exact m.elim
    rename_i i
    cases (show v = .int i from s1)
    exact ⟨i, rfl, m.1, post.sc x1 (.str _) m.2⟩
  | gcd => exact absurd rfl hf.1
  | bits => exact absurd rfl hf.2
theorem e_gcd {a c : Expr} {xa xc : E} {p pos : Pos} (G : XG X Y Θ k N sc W) (hon : Θ.gcdOn = true) (hg : glB sc "gcd" = true) (ha : PE X a (tV Θ e W (ev xa))) (hc : PE X c (tV Θ e W (ev xc))) (hs : notStar a = true) (hs2 : notStar c = true) : PE X (.Call (.Name "gcd" p) [a, c] [] pos) (tV Θ e W (ev (.bi .gcd xa (some xc)))) := by
  have hg' : Gl X "gcd" := gl_of (by rw [G.hs]; exact hg)
  have st := starEach_ns (es := [c]) (env := X.env) hs
  have st2 := starEach_ns (es := []) (env := X.env) hs2
  refine peI (pe_callBfun cr_gcd hg' (G.gcd hon) (pa_cons ha (pa_cons hc pa_nil st2) st) (by decide) st (by rw [st2]; rfl)) fun σ H Q h => ?_
  refine v_bin (op := fun x y => biD .gcd x (some y)) (r := fun v u H1 Q => rGcd [v, u] H1 Q) (fun {σ Q F F2 b b2 H H2 P E v u x y} post x1 w w2 r1 r2 m => ?_) σ H Q h
  have s1 := r1.sees
  have s2 := r2.sees
  simp only [biD] at m
  cases hd : x.d <;> simp only [hd] at m s1 <;> try exact m.elim
  cases hd2 : y.d <;> simp only [hd2] at m s2 <;> try exact m.elim
  rename_i i j
  cases (show v = .int i from s1)
  cases (show u = .int j from s2)
  exact ⟨i, j, rfl, post.sc x1 (.int _) m⟩
theorem e_bits {a : Expr} {xa : E} {apos pos : Pos} (ha : PE X a (tV Θ e W (ev xa))) (hp : attrPlain a = true) (hl : (apos.endLine == pos.line) = true) : PE X (.Call (.Attribute a "bit_length" apos) [] [] pos) (tV Θ e W (ev (.bi .bits xa none))) := by
  refine peI (pe_bits ha (attr_plain hp) hl) fun σ H Q h => ?_
  refine v_un (r := fun v H1 Q => ∃ i, v = V.int i ∧ Q (.int (Builtin.Int.intBits i : Nat)) H1) (fun {σ Q F F2 b b2 H H2 P E v x} post x1 w w2 r1 m => ?_) σ H Q h
  have s1 := r1.sees
  unfold biD at m
  cases hd : x.d <;> simp only [hd] at m s1 <;> try exact m.elim
  rename_i i
  cases (show v = .int i from s1)
  exact ⟨i, rfl, post.sc x1 (.int _) m⟩
end
end VL
end
-- V6
section
set_option Elab.async false
set_option linter.all false
set_option maxRecDepth 100000
set_option maxHeartbeats 4000000
/-! Soundness: and, or, not, if, chains, displays of dicts, isinstance, slices. -/
namespace VL
open PySem PySem.Spec PyProof.Rows
open L2 hiding St
section
variable {X : Cx} {Y : Wo} {Θ : Th} {k : Nat} {N : List Str} {sc : Scope} {W : WX} {e : En}
/-- the truth of a bool -/
def evB (f : Env' → M R) : Env' → M Bool := fun ρ => bnd (f ρ) R.bool
theorem bool_ok {r : R} {P : Bool → Nat → Prop} {E : XD → Nat → Prop} {b : Nat} (m : r.bool P E b) : ∃ t, r = .val (.bl t) ∧ P t b := by
  unfold R.bool at m
  split at m
  · exact ⟨_, rfl, m⟩
  · exact m.elim
theorem rep_bl {F : Addr → Prop} {H H0 : Hp} {v : V} {t : Bool} (h : RepR Θ H0 F H v (.val (.bl t))) : v = .bl t := by cases h; rfl
theorem t_val {a : Expr} {f : Env' → M R} (h : PE X a (tV Θ e W f)) (hp : plainTest a = true) : PT X a (tVt Θ e W (evB f)) :=
  ptI (pt_val h (fun wh => plain_test hp wh)) fun σ H Q q => by
    obtain ⟨F, b, ρ, P, E, ok, m, p1, p2⟩ := q
    refine ⟨F, b, ρ, _, E, ok, m, ⟨fun r b1 m1 v F1 H1 x1 r1 => ?_, p2⟩⟩
    obtain ⟨t, rfl, m2⟩ := bool_ok m1
    exact ⟨t, rep_bl r1, p1 _ _ m2 _ _ x1⟩
/-! and, or -/
theorem e_and1 {a : Expr} {pos : Pos} {f : Env' → M R} {op} (h : PE X a (tV Θ e W f)) : PE X (.BoolOp op [a] pos) (tV Θ e W f) := pe_one h
theorem e_and {a c : Expr} {rest : List Expr} {pos : Pos} {f g : Env' → M R} (h1 : PE X a (tV Θ e W f)) (h2 : PE X (.BoolOp .And (c :: rest) pos) (tV Θ e W g)) :
    PE X (.BoolOp .And (a :: c :: rest) pos) (tV Θ e W fun ρ => bnd (f ρ) fun x => bnd x.bool fun t => iteM t (g ρ) (ret (.val (.bl false)))) :=
  peI (pe_and h1 h2) fun σ H Q q => by
    obtain ⟨F, b, ρ, P, E, ok, m, post⟩ := q
    refine ⟨F, b, ρ, _, E, ok, m, ⟨fun r b1 m1 v F1 H1 x1 r1 => ?_, post.ex⟩⟩
    obtain ⟨t, rfl, m2⟩ := bool_ok m1
    refine ⟨t, rep_bl r1, ?_⟩
    cases t with
    | true => exact ⟨F1, b1, ρ, P, E, ok.ext x1, m2, ⟨fun y b2 m3 u F2 H2 x2 r2 => post.ok _ _ m3 _ _ _ (x1.trans x2 ok.wd) (r2.base x1), ex_ext ok.wd x1 post.ex⟩⟩
    | false => exact post.ok _ _ m2 _ _ _ x1 (Rep.bl _)
theorem e_or {a c : Expr} {rest : List Expr} {pos : Pos} {f g : Env' → M R} (h1 : PE X a (tV Θ e W f)) (h2 : PE X (.BoolOp .Or (c :: rest) pos) (tV Θ e W g)) :
    PE X (.BoolOp .Or (a :: c :: rest) pos) (tV Θ e W fun ρ => bnd (f ρ) fun x => bnd x.bool fun t => iteM t (ret (.val (.bl true))) (g ρ)) :=
  peI (pe_or h1 h2) fun σ H Q q => by
    obtain ⟨F, b, ρ, P, E, ok, m, post⟩ := q
    refine ⟨F, b, ρ, _, E, ok, m, ⟨fun r b1 m1 v F1 H1 x1 r1 => ?_, post.ex⟩⟩
    obtain ⟨t, rfl, m2⟩ := bool_ok m1
    refine ⟨t, rep_bl r1, ?_⟩
    cases t with
    | false => exact ⟨F1, b1, ρ, P, E, ok.ext x1, m2, ⟨fun y b2 m3 u F2 H2 x2 r2 => post.ok _ _ m3 _ _ _ (x1.trans x2 ok.wd) (r2.base x1), ex_ext ok.wd x1 post.ex⟩⟩
    | true => exact post.ok _ _ m2 _ _ _ x1 (Rep.bl _)
theorem t_and {a c : Expr} {rest : List Expr} {pos : Pos} {f g : Env' → M R} (h1 : PT X a (tVt Θ e W (evB f))) (h2 : PW X (.BoolOp .And (c :: rest) pos) (tVt Θ e W (evB g))) :
    PW X (.BoolOp .And (a :: c :: rest) pos) (tVt Θ e W (evB fun ρ => bnd (f ρ) fun x => bnd x.bool fun t => iteM t (g ρ) (ret (.val (.bl false))))) :=
  pwI (pw_and h1 h2) fun σ H Q q => by
    obtain ⟨F, b, ρ, P, E, ok, m, p1, p2⟩ := q
    refine ⟨F, b, ρ, _, E, ok, m, fun t b1 m1 F1 H1 x1 => ?_, p2⟩
    cases t with
    | true => exact ⟨F1, b1, ρ, P, E, ok.ext x1, m1, fun t b2 m3 F2 H2 x2 => p1 _ _ m3 _ _ (x1.trans x2 ok.wd), ex_ext ok.wd x1 p2⟩
    | false => exact p1 _ _ m1 _ _ x1
theorem t_or {a c : Expr} {rest : List Expr} {pos : Pos} {f g : Env' → M R} (h1 : PT X a (tVt Θ e W (evB f))) (h2 : PW X (.BoolOp .Or (c :: rest) pos) (tVt Θ e W (evB g))) :
    PW X (.BoolOp .Or (a :: c :: rest) pos) (tVt Θ e W (evB fun ρ => bnd (f ρ) fun x => bnd x.bool fun t => iteM t (ret (.val (.bl true))) (g ρ))) :=
  pwI (pw_or h1 h2) fun σ H Q q => by
    obtain ⟨F, b, ρ, P, E, ok, m, p1, p2⟩ := q
    refine ⟨F, b, ρ, _, E, ok, m, fun t b1 m1 F1 H1 x1 => ?_, p2⟩
    cases t with
    | false => exact ⟨F1, b1, ρ, P, E, ok.ext x1, m1, fun t b2 m3 F2 H2 x2 => p1 _ _ m3 _ _ (x1.trans x2 ok.wd), ex_ext ok.wd x1 p2⟩
    | true => exact p1 _ _ m1 _ _ x1
/-! not, if -/
theorem e_not {a : Expr} {pos : Pos} {f : Env' → M R} (h : PE X a (tV Θ e W f)) : PE X (.UnaryOp .Not a pos) (tV Θ e W fun ρ => bnd (f ρ) fun x => bnd x.bool fun t => ret (.val (.bl (!t)))) :=
  peI (pe_not h) fun σ H Q q => by
    obtain ⟨F, b, ρ, P, E, ok, m, post⟩ := q
    refine ⟨F, b, ρ, _, E, ok, m, ⟨fun r b1 m1 v F1 H1 x1 r1 => ?_, post.ex⟩⟩
    obtain ⟨t, rfl, m2⟩ := bool_ok m1
    exact ⟨t, rep_bl r1, post.ok _ _ m2 _ _ _ x1 (Rep.bl _)⟩
theorem t_not {a : Expr} {pos : Pos} {f : Env' → M R} (h : PT X a (tVt Θ e W (evB f))) : PT X (.UnaryOp .Not a pos) (tVt Θ e W (evB fun ρ => bnd (f ρ) fun x => bnd x.bool fun t => ret (.val (.bl (!t))))) :=
  ptI (pt_not h) fun σ H Q q => by
    obtain ⟨F, b, ρ, P, E, ok, m, p1, p2⟩ := q
    exact ⟨F, b, ρ, _, E, ok, m, fun t b1 m1 F1 H1 x1 => p1 _ _ m1 _ _ x1, p2⟩
theorem e_ite {c a a' : Expr} {pos : Pos} {fc f g : Env' → M R} (hc : PT X c (tVt Θ e W (evB fc))) (h1 : PE X a (tV Θ e W f)) (h2 : PE X a' (tV Θ e W g)) :
    PE X (.IfExp c a a' pos) (tV Θ e W fun ρ => bnd (fc ρ) fun x => bnd x.bool fun t => iteM t (f ρ) (g ρ)) :=
  peI (pe_ifExp hc h1 h2) fun σ H Q q => by
    obtain ⟨F, b, ρ, P, E, ok, m, post⟩ := q
    refine ⟨F, b, ρ, _, E, ok, m, fun t b1 m1 F1 H1 x1 => ?_, post.ex⟩
    cases t with
    | true => exact ⟨F1, b1, ρ, P, E, ok.ext x1, m1, ⟨fun y b2 m3 u F2 H2 x2 r2 => post.ok _ _ m3 _ _ _ (x1.trans x2 ok.wd) (r2.base x1), ex_ext ok.wd x1 post.ex⟩⟩
    | false => exact ⟨F1, b1, ρ, P, E, ok.ext x1, m1, ⟨fun y b2 m3 u F2 H2 x2 r2 => post.ok _ _ m3 _ _ _ (x1.trans x2 ok.wd) (r2.base x1), ex_ext ok.wd x1 post.ex⟩⟩
theorem t_ite {c a a' : Expr} {pos : Pos} {fc f g : Env' → M R} (hc : PT X c (tVt Θ e W (evB fc))) (h1 : PT X a (tVt Θ e W (evB f))) (h2 : PT X a' (tVt Θ e W (evB g))) :
    PT X (.IfExp c a a' pos) (tVt Θ e W (evB fun ρ => bnd (fc ρ) fun x => bnd x.bool fun t => iteM t (f ρ) (g ρ))) := by
  refine ⟨fun pins s σ H Q I q => ?_⟩
  obtain ⟨F, b, ρ, P, E, ok, m, p1, p2⟩ := q
  have hq : tVt Θ e W (evB fc) σ H (fun t H1 => if t = true then tVt Θ e W (evB f) σ H1 Q else tVt Θ e W (evB g) σ H1 Q) := by
    refine ⟨F, b, ρ, _, E, ok, m, fun t b1 m1 F1 H1 x1 => ?_, p2⟩
    cases t with
    | true => exact ⟨F1, b1, ρ, P, E, ok.ext x1, m1, fun t b2 m3 F2 H2 x2 => p1 _ _ m3 _ _ (x1.trans x2 ok.wd), ex_ext ok.wd x1 p2⟩
    | false => exact ⟨F1, b1, ρ, P, E, ok.ext x1, m1, fun t b2 m3 F2 H2 x2 => p1 _ _ m3 _ _ (x1.trans x2 ok.wd), ex_ext ok.wd x1 p2⟩
  refine isTrue_IfExp (thn (hc.run pins s σ H _ I hq) fun t s1 ⟨H1, I1, q1⟩ => ?_)
  cases t with
  | true => exact h1.run pins s1 σ H1 Q I1 q1
  | false => exact h2.run pins s1 σ H1 Q I1 q1
/-! comparisons -/
theorem e_cmp {op : CmpOp} {a c : Expr} {pos : Pos} {f g : Env' → M R} (G : XG X Y Θ k N sc W) (h1 : PE X a (tV Θ e W f)) (h2 : PE X c (tV Θ e W g)) (hs : notSet c = true) : PE X (.Compare a [op] [c] pos) (tV Θ e W fun ρ => bnd (f ρ) fun x => bnd (g ρ) fun y => cmpD op x y) := by
  have hu := G.room.un
  refine peI (pe_cmpR (op_cmp (by omega) op) h1 h2 (notSet_marks op hs)) fun σ H Q q => ?_
  rw [G.hK]
  exact v_bin (op := cmpD op) (fun post x w w2 r1 r2 m => cmp_ok post x r1.sees r2.sees m) σ H Q q
theorem t_cmp {op : CmpOp} {a c : Expr} {pos : Pos} {f g : Env' → M R} (G : XG X Y Θ k N sc W) (h1 : PE X a (tV Θ e W f)) (h2 : PE X c (tV Θ e W g)) (hs : notSet c = true) : PT X (.Compare a [op] [c] pos) (tVt Θ e W (evB fun ρ => bnd (f ρ) fun x => bnd (g ρ) fun y => cmpD op x y)) := by
  have hu := G.room.un
  refine ptI (pt_cmpR (op_cmp (by omega) op) h1 h2 (notSet_marks op hs)) fun σ H Q q => ?_
  rw [G.hK]
  obtain ⟨F, b, ρ, P, E, ok, m, p1, p2⟩ := q
  refine v_bin (op := cmpD op) (fun post x w w2 r1 r2 m => cmp_ok post x r1.sees r2.sees m) σ H _ ⟨F, b, ρ, fun r b1 => r.bool P E b1, E, ok, m, ⟨fun r b1 m1 v F1 H1 x1 r1 => ?_, p2⟩⟩
  obtain ⟨t, rfl, m2⟩ := bool_ok m1
  exact ⟨t, rep_bl r1, p1 _ _ m2 _ _ x1⟩
/-- a op c op' d, as a value -/
theorem chain_tV {op op' : CmpOp} {f g h : Env' → M R} {σ : St} {H : Hp} {Q : VK} (hq : tV Θ e W (fun ρ => bnd (f ρ) fun x => bnd (g ρ) fun y => bnd (cmpD op x y) fun t => bnd t.bool fun t => iteM t (bnd (h ρ) fun z => cmpD op' y z) (ret (.val (.bl false)))) σ H Q) :
    tChain (rCmp Θ.K op) (rCmp Θ.K op') (tV Θ e W f) (tV Θ e W g) (tV Θ e W h) σ H Q := by
  obtain ⟨F, b, ρ, P, E, ok, m, post⟩ := hq
  refine ⟨F, b, ρ, _, E, ok, m, ⟨fun x b1 m1 v F1 H1 x1 r1 => ?_, post.ex⟩⟩
  have ok1 := ok.ext x1
  refine ⟨F1, b1, ρ, _, E, ok1, m1, ⟨fun y b2 m2 u F2 H2 x2 r2 => ?_, ex_ext ok.wd x1 post.ex⟩⟩
  have ok2 := ok1.ext x2
  have x12 := x1.trans x2 ok.wd
  refine cmp_ok (σ := σ) (W := W) (F := F2) (b := b2) (H := H2) (P := fun t b' => t.bool (fun t b' => iteM t (bnd (h ρ) fun z => cmpD op' y z) (ret (.val (.bl false))) P E b') E b') (E := E)
    ⟨fun t b3 m3 v3 F3 H3 x3 r3 => ?_, ex_ext ok.wd x12 post.ex⟩ .refl (r1.ext x2 ok1.wd).sees r2.sees m2
  obtain ⟨t, rfl, m4⟩ := bool_ok m3
  refine ⟨t, rep_bl r3, ?_⟩
  have ok3 := ok2.ext x3
  have x13 := x12.trans x3 ok.wd
  cases t with
  | true =>
    refine ⟨F3, b3, ρ, _, E, ok3, m4, ⟨fun z b4 m5 w F4 H4 x4 r4 => ?_, ex_ext ok.wd x13 post.ex⟩⟩
    exact cmp_ok post (x13.trans x4 ok.wd) ((r2.ext x3 ok2.wd).ext x4 ok3.wd).sees r4.sees m5
  | false => exact post.ok _ _ m4 _ _ _ x13 (Rep.bl _)
def notSetC : Expr → Bool := notSet
theorem lastMarks_ns {op op' : CmpOp} {c d : Expr} (hs : notSet d = true) : lastMarks [op, op'] [c, d] = false := notSet_marks op' hs
theorem e_chain {op op' : CmpOp} {a c d : Expr} {pos : Pos} {f g h : Env' → M R} (G : XG X Y Θ k N sc W) (h1 : PE X a (tV Θ e W f)) (h2 : PE X c (tV Θ e W g)) (h3 : PE X d (tV Θ e W h)) (hs : notSet d = true) :
    PE X (.Compare a [op, op'] [c, d] pos) (tV Θ e W fun ρ => bnd (f ρ) fun x => bnd (g ρ) fun y => bnd (cmpD op x y) fun t => bnd t.bool fun t => iteM t (bnd (h ρ) fun z => cmpD op' y z) (ret (.val (.bl false)))) := by
  have hu := G.room.un
  refine peI (pe_chain (op_cmp (by omega) op) (op_cmp (by omega) op') h1 h2 h3 (lastMarks_ns hs)) fun σ H Q q => ?_
  rw [G.hK]
  exact chain_tV q
theorem t_chain {op op' : CmpOp} {a c d : Expr} {pos : Pos} {f g h : Env' → M R} (G : XG X Y Θ k N sc W) (h1 : PE X a (tV Θ e W f)) (h2 : PE X c (tV Θ e W g)) (h3 : PE X d (tV Θ e W h)) (hs : notSet d = true) :
    PT X (.Compare a [op, op'] [c, d] pos) (tVt Θ e W (evB fun ρ => bnd (f ρ) fun x => bnd (g ρ) fun y => bnd (cmpD op x y) fun t => bnd t.bool fun t => iteM t (bnd (h ρ) fun z => cmpD op' y z) (ret (.val (.bl false))))) := by
  have hu := G.room.un
  refine ptI (pt_chain (op_cmp (by omega) op) (op_cmp (by omega) op') h1 h2 h3 (lastMarks_ns hs)) fun σ H Q q => ?_
  rw [G.hK]
  obtain ⟨F, b, ρ, P, E, ok, m, p1, p2⟩ := q
  refine chain_tV ⟨F, b, ρ, fun r b1 => r.bool P E b1, E, ok, m, ⟨fun r b1 m1 v F1 H1 x1 r1 => ?_, p2⟩⟩
  obtain ⟨t, rfl, m2⟩ := bool_ok m1
  exact ⟨t, rep_bl r1, p1 _ _ m2 _ _ x1⟩
/-! minus, items, keys, fields, slices -/
theorem e_neg {a : Expr} {pos : Pos} {f : Env' → M R} (h : PE X a (tV Θ e W f)) : PE X (.UnaryOp .USub a pos) (tV Θ e W fun ρ => bnd (f ρ) negR) :=
  peI (pe_un un_neg h) fun σ H Q q => v_un (r := fun v H1 Q => rU (fun i => .int (-i)) v H1 Q) (fun {σ Q F F2 b b2 H H2 P E v x} post x1 w w2 r1 m => by
    have s1 := r1.sees
    unfold negR at m
    cases hd : x.d <;> simp only [hd] at m s1 <;> try exact m.elim
    rename_i i
    cases (show v = .int i from s1)
    exact ⟨i, rfl, post.sc x1 (.int _) m⟩) σ H Q q
theorem e_bin {op : Operator} {a c : Expr} {pos : Pos} {f g : Env' → M R} (G : XG X Y Θ k N sc W) (h1 : PE X a (tV Θ e W f)) (h2 : PE X c (tV Θ e W g)) : PE X (.BinOp a op c pos) (tV Θ e W fun ρ => bnd (f ρ) fun x => bnd (g ρ) fun y => binD op x y) :=
  peI (pe_op (op_bin op) h1 h2) fun σ H Q q => by
    rw [G.hK]
    exact v_bin (op := binD op) (fun post x w w2 r1 r2 m => bin_ok post x w w2 r1 r2 m) σ H Q q
theorem e_idx {a c : Expr} {pos : Pos} {f g : Env' → M R} (G : XG X Y Θ k N sc W) (h1 : PE X a (tV Θ e W f)) (h2 : PE X c (tV Θ e W g)) (hs : notSlice c = true) : PE X (.Subscript a c pos) (tV Θ e W fun ρ => bnd (f ρ) fun x => bnd (g ρ) fun y => idxD x y) :=
  peI (pe_ix ix_seq h1 h2 (plain_ix hs)) fun σ H Q q => by
    rw [G.hK]
    exact v_bin (op := idxD) (fun post x w w2 r1 r2 m => idx_ok post x r1 r2 m) σ H Q q
theorem e_key {a : Expr} {x : Str} {j : Nat} {p pos : Pos} {f : Env' → M R} (G : XG X Y Θ k N sc W) (h1 : PE X a (tV Θ e W f)) : PE X (.Subscript a (.Constant (.str x) j p) pos) (tV Θ e W fun ρ => bnd (f ρ) (keyD x)) := by
  have hu := G.room.un
  refine peI (pe_dget (by omega) h1 pe_str (fun _ _ => rfl)) fun σ H Q q => ?_
  exact v_un (r := fun v H1 Q => ∃ a v', v = .ref a ∧ DGet H1 a (.str x) (some v') ∧ Q v' H1) (fun post x w w2 r1 m => key_ok post x r1 m) σ H Q q
theorem e_fld {a : Expr} {x : Str} {pos : Pos} {f : Env' → M R} (G : XG X Y Θ k N sc W) (h1 : PE X a (tV Θ e W f)) (hp : attrPlain a = true) (hf : x ∈ Θ.flds) : PE X (.Attribute a x pos) (tV Θ e W fun ρ => bnd (f ρ) fun y => fldD y x) :=
  peI (pe_fld h1 (attr_plain hp)) fun σ H Q q => by
    rw [G.hK]
    exact v_un (op := fun y => fldD y x) (r := fun v H1 Q => ∃ a C dx fs w, v = .ref a ∧ H1 a = some (.ins C dx fs) ∧ Cls Θ.K C ∧ NoAttr Θ.K C x ∧ fs.lookup x = some w ∧ Q w H1) (fun post x w w2 r1 m => fld_ok G.ins hf post x r1 m) σ H Q q
/-- a slice's parts -/
def tVo (Θ : Th) (e : En) (W : WX) (f : Env' → M (Option Int)) : TO := fun σ H Q => ∃ F b ρ P E, EOk Θ e F b H σ ρ ∧ f ρ P E b ∧
  (∀ r b', P r b' → ∀ F' H', Ext Θ F b H F' b' H' → Q r H') ∧ (∀ x b', E x b' → ∀ cls d F' H', Ext Θ F b H F' b' H' → RepX Θ F' H' cls d x → W cls d σ H')
theorem poI {o : Option Expr} {t t' : TO} (h : PO X o t) (i : ∀ σ H Q, t' σ H Q → t σ H Q) : PO X o t' := ⟨fun pins s σ H Q I q => h.run pins s σ H Q I (i σ H Q q)⟩
theorem o_none : PO X none (tVo Θ e W (evo none)) := poI po_none fun σ H Q q => by
  obtain ⟨F, b, ρ, P, E, ok, m, p1, p2⟩ := q
  exact p1 _ _ m _ _ .refl
theorem o_some {a : Expr} {x : E} (h : PE X a (tV Θ e W (ev x))) : PO X (some a) (tVo Θ e W (evo (some x))) := poI (po_some h) fun σ H Q q => by
  obtain ⟨F, b, ρ, P, E, ok, m, p1, p2⟩ := q
  refine ⟨F, b, ρ, _, E, ok, m, ⟨fun r b1 m1 v F1 H1 x1 r1 => ?_, p2⟩⟩
  have s1 := r1.sees
  unfold partR at m1
  cases hd : r.d <;> simp only [hd] at m1 s1 <;> try exact m1.elim
  exact ⟨_, s1, p1 _ _ m1 _ _ x1⟩
theorem e_slc {a : Expr} {lo hi : Option Expr} {x : E} {xl xh : Option E} {p2 pos : Pos} (G : XG X Y Θ k N sc W) (h1 : PE X a (tV Θ e W (ev x))) (h2 : PO X lo (tVo Θ e W (evo xl))) (h3 : PO X hi (tVo Θ e W (evo xh))) :
    PE X (.Subscript a (.Slice lo hi none p2) pos) (tV Θ e W (ev (.slc x xl xh))) :=
  peI (pe_slice sl_seq h1 h2 h3) fun σ H Q q => by
    rw [G.hK]
    obtain ⟨F, b, ρ, P, E, ok, m, post⟩ := q
    refine ⟨F, b, ρ, _, E, ok, m, ⟨fun r b1 m1 v F1 H1 x1 r1 => ?_, post.ex⟩⟩
    have ok1 := ok.ext x1
    refine ⟨F1, b1, ρ, _, E, ok1, m1, fun l b2 m2 F2 H2 x2 => ?_, ex_ext ok.wd x1 post.ex⟩
    have ok2 := ok1.ext x2
    have x12 := x1.trans x2 ok.wd
    refine ⟨F2, b2, ρ, _, E, ok2, m2, fun h b3 m3 F3 H3 x3 => ?_, ex_ext ok.wd x12 post.ex⟩
    exact slc_ok post (x12.trans x3 ok.wd) ok.wd (ok2.wd.ext x3) ((r1.ext x2 ok1.wd).ext x3 ok2.wd) m3
/-! isinstance -/
theorem kit_bt {K : PySem.W.Frag} {n m : String} (hn : n ∈ btNames) (hm : m ∈ tyNames) : PySem.W.kitOne K (.type n) (.type m) = some (decide (n = m) || (decide (n = "bool") && decide (m = "int"))) := by
  have q : ∀ n ∈ btNames, ∀ m ∈ tyNames, kitB n m = some (decide (n = m) || (decide (n = "bool") && decide (m = "int"))) := by decide +kernel
  exact kit_ty (q n hn m hm)
/-- a type's own value -/
def TyV (Θ : Th) : TyN → Value → Prop
  | .ty n, u => u = .type n
  | .cls c, u => ∃ C, Θ.glb c = some C ∧ u = .ref C
theorem ty_of {F : Addr → Prop} {b : Nat} {H : Hp} {v : V} {d : D} (G : XG X Y Θ k N sc W) (w : Wd Θ F b H) (s : Sees Θ F H v d) (kn : d.known = true) : ∃ t, TyX Θ.K H v t ∧ TyV Θ d.ty t ∧ ((∃ n ∈ btNames, d.ty = .ty n) ∨ ∃ c ∈ Θ.ins, d.ty = .cls c) := by
  cases d with
  | non => cases (show v = .non from s); exact ⟨_, .base .non, rfl, .inl ⟨_, by decide, rfl⟩⟩
  | bl t => cases (show v = .bl t from s); exact ⟨_, .base (.bl t), rfl, .inl ⟨_, by decide, rfl⟩⟩
  | int i => cases (show v = .int i from s); exact ⟨_, .base (.int i), rfl, .inl ⟨_, by decide, rfl⟩⟩
  | str i => cases (show v = .str i from s); exact ⟨_, .base (.str i), rfl, .inl ⟨_, by decide, rfl⟩⟩
  | tup xs =>
    obtain ⟨a, vs, rfl, h1, h2⟩ := s
    refine ⟨.type "tuple", ?_, rfl, .inl ⟨"tuple", by decide, rfl⟩⟩
    rcases h1 with (h1 | ⟨o, h1⟩) | ⟨o, its, n, h1, h3, _⟩
    · exact .base (.tup h1)
    · exact .fTuple h1
    · exact .kTuple h1 h3
  | lst xs =>
    obtain ⟨a, vs, rfl, h1, h2⟩ := s
    exact ⟨.type "list", .base (.lst h1), rfl, .inl ⟨"list", by decide, rfl⟩⟩
  | dct xs =>
    obtain ⟨a, vs, rfl, h1, h2⟩ := s
    exact ⟨.type "dict", .base (.dK h1), rfl, .inl ⟨"dict", by decide, rfl⟩⟩
  | obj c fs =>
    obtain ⟨a, C, dx, fs', rfl, h1, h2, h3⟩ := s
    obtain ⟨cl, _⟩ := G.ins c h2.1 C h2.2
    obtain ⟨i1, i4⟩ := G.isi.of c h2.1 C h2.2
    obtain ⟨i2, i3⟩ := G.isi.sp (fun z => by rw [z] at h2; cases h2.1)
    exact ⟨.ref C, .base (.ins h1 cl i1 i2 i3 i4), ⟨C, h2.2, rfl⟩, .inr ⟨c, h2.1, rfl⟩⟩
  | pen =>
    obtain ⟨a, rfl, hp⟩ := s
    obtain ⟨⟨ns, a1, a2, a3, a4, e1, _⟩, _⟩ := w.p a hp
    exact ⟨.type "dict", .base (.dK e1), rfl, .inl ⟨"dict", by decide, rfl⟩⟩
  | fn x => cases kn
  | clo x y => cases kn
/-- the types that a text may name -/
def tnOk (Θ : Th) : TyN → Bool
  | .ty n => decide (n ∈ tyNames)
  | .cls c => decide (c ∈ Θ.ins)
theorem kit_ok {t c : TyN} {u w : Value} (G : XG X Y Θ k N sc W) (h1 : (∃ n ∈ btNames, t = .ty n) ∨ ∃ c ∈ Θ.ins, t = .cls c) (h2 : tnOk Θ c = true) (hu : TyV Θ t u) (hw : TyV Θ c w) : PySem.W.kitOne Θ.K u w = some (decide (t = c) || (decide (t = .ty "bool") && decide (c = .ty "int"))) := by
  rcases h1 with ⟨n, hn, rfl⟩ | ⟨c', hc', rfl⟩
  · cases hu
    cases c with
    | ty m =>
      cases hw
      rw [kit_bt hn (by simpa [tnOk] using h2)]
      simp
    | cls c =>
      obtain ⟨C, e1, rfl⟩ := hw
      rw [G.isi.bt c (by simpa [tnOk] using h2) C e1 n hn]
      simp
  · obtain ⟨C', e0, rfl⟩ := hu
    cases c with
    | ty m =>
      cases hw
      rw [G.isi.ty c' hc' C' e0 m (by simpa [tnOk] using h2)]
      simp
    | cls c =>
      obtain ⟨C, e1, rfl⟩ := hw
      rw [G.isi.cc c (by simpa [tnOk] using h2) C e1 c' hc' C' e0]
      simp
/-- a type by its name in the text -/
def tyExpr (sc : Scope) : TyN → Expr → Bool
  | .ty n, .Name x _ => decide (x = Str.ofString n) && glB sc x && plainName x
  | .cls c, .Name x _ => decide (x = c) && glB sc x && plainName x
  | _, _ => false
/-- a type's V -/
def TyVV (Θ : Th) : TyN → V → Prop
  | .ty n, u => u = .ty n
  | .cls c, u => ∃ C, Θ.glb c = some C ∧ u = .ref C
theorem boot_ty {n : String} (h : n ∈ tyNames) : bootBuiltins (Str.ofString n) = some (.type n) ∧ Str.ofString n ≠ "__name__" ∧ Str.ofString n ∈ freeNames := by
  have q : ∀ n ∈ tyNames, bootBuiltins (Str.ofString n) = some (.type n) ∧ Str.ofString n ≠ "__name__" ∧ Str.ofString n ∈ freeNames := by decide +kernel
  exact q n h
theorem e_ty {t : TyN} {a : Expr} (G : XG X Y Θ k N sc W) (ht : tnOk Θ t = true) (h : tyExpr sc t a = true) : ∃ v u, TyVV Θ t v ∧ TyV Θ t u ∧ ClsV v u ∧ PE X a (tC v) ∧ notStar a = true := by
  cases t with
  | ty n =>
    cases a <;> try cases h
    rename_i x p
    unfold tyExpr at h
    simp only [Bool.and_eq_true, decide_eq_true_eq] at h
    obtain ⟨⟨rfl, h2⟩, h3⟩ := h
    obtain ⟨b1, b2, b3⟩ := boot_ty (n := n) (by simpa [tnOk] using ht)
    obtain ⟨d1, d2⟩ := plainName_debug h3
    exact ⟨.ty n, .type n, rfl, rfl, .ty n, ⟨fun pins s σ H Q I h => ld_blt I (gl_of (by rw [G.hs]; exact h2)) (free_mg G b3) b1 ⟨.ty n, H, I, rfl, h⟩ b2 d1⟩, rfl⟩
  | cls c =>
    cases a <;> try cases h
    rename_i x p
    unfold tyExpr at h
    simp only [Bool.and_eq_true, decide_eq_true_eq] at h
    obtain ⟨⟨rfl, h2⟩, h3⟩ := h
    obtain ⟨C, hC⟩ := G.isi.at_ x (by simpa [tnOk] using ht)
    obtain ⟨d1, d2⟩ := plainName_debug h3
    exact ⟨.ref C, .ref C, ⟨C, hC, rfl⟩, ⟨C, hC, rfl⟩, .own C, pe_glob (gl_of (by rw [G.hs]; exact h2)) (G.glb _ _ hC) rfl d1, rfl⟩
theorem e_isi1 {a c : Expr} {t : TyN} {p pos : Pos} {f : Env' → M R} (G : XG X Y Θ k N sc W) (hg : glB sc "isinstance" = true) (h1 : PE X a (tV Θ e W f)) (hs : notStar a = true) (ht : tnOk Θ t = true) (h : tyExpr sc t c = true) :
    PE X (.Call (.Name "isinstance" p) [a, c] [] pos) (tV Θ e W fun ρ => bnd (f ρ) (isiM [t])) := by
  obtain ⟨v, u, _, hu, hc, hp, hs2⟩ := e_ty G ht h
  have st := starEach_ns (es := [c]) (env := X.env) hs
  have st2 := starEach_ns (es := []) (env := X.env) hs2
  refine peI (pe_callB call_isi (gl_of (by rw [G.hs]; exact hg)) (free_mg G (by decide)) (by decide +kernel) (pa_cons h1 (pa_cons hp pa_nil st2) st) (by decide) (by decide) st (by rw [st2]; rfl)) fun σ H Q q => ?_
  refine v_un (r := fun x H1 Q => rIsi X.K [x, v] H1 Q) (fun {σ Q F F2 b b2 H H2 P E v' x} post x1 w w2 r1 m => ?_) σ H Q q
  obtain ⟨kn, m⟩ := m
  obtain ⟨tt, h3, h4, h5⟩ := ty_of G w2 r1.sees kn
  rw [G.hK]
  refine ⟨v', v, tt, u, _, rfl, hc, h3, kit_ok G h5 ht h4 hu, ?_⟩
  have := post.sc x1 (.bl _) m
  simpa [isiB] using this
theorem tys_pa {ts : List TyN} {as : List Expr} (G : XG X Y Θ k N sc W) (ht : ts.all (tnOk Θ) = true) (h : ts.length = as.length) (hx : (ts.zip as).all (fun p => tyExpr sc p.1 p.2) = true) :
    ∃ vs us, PA X as (fun σ H Q => Q vs H) ∧ Paired ClsV vs us ∧ (∀ {t : TyN} {w : Value}, ((∃ n ∈ btNames, t = .ty n) ∨ ∃ c ∈ Θ.ins, t = .cls c) → TyV Θ t w → PySem.W.kitAny Θ.K w us = some (ts.any fun c => decide (t = c) || (decide (t = .ty "bool") && decide (c = .ty "int")))) ∧ vs.length = ts.length := by
  induction ts generalizing as with
  | nil =>
    cases as with
    | nil => exact ⟨[], [], pa_nil, .nil, fun _ _ => rfl, rfl⟩
    | cons => cases h
  | cons t ts ih =>
    cases as with
    | nil => cases h
    | cons a as =>
      rw [List.all_cons, Bool.and_eq_true] at ht
      rw [List.zip_cons_cons, List.all_cons, Bool.and_eq_true] at hx
      obtain ⟨vs, us, h1, h2, h3, h4⟩ := ih ht.2 (by simpa using h) hx.2
      obtain ⟨v, u, _, hu, hc, hp, hs2⟩ := e_ty G ht.1 hx.1
      refine ⟨v :: vs, u :: us, ?_, .cons hc h2, fun {t' w} q1 q2 => ?_, by simp [h4]⟩
      · exact paI (pa_cons hp h1 (starEach_ns hs2)) fun σ H Q q => q
      · refine kitAny_cons (kit_ok G q1 ht.1 q2 hu) (fun z => ?_) (fun z => ?_)
        · rw [h3 q1 q2, List.any_cons, z]; rfl
        · rw [List.any_cons, z]; rfl
theorem e_isiT {a : Expr} {as : List Expr} {ts : List TyN} {kk : Nat} {p p2 pos : Pos} {f : Env' → M R} (G : XG X Y Θ k N sc W) (hg : glB sc "isinstance" = true) (h1 : PE X a (tV Θ e W f)) (hs : notStar a = true) (ht : ts.all (tnOk Θ) = true) (h : ts.length = as.length) (hx : (ts.zip as).all (fun p => tyExpr sc p.1 p.2) = true) (hl : ts.length ≤ 30) :
    PE X (.Call (.Name "isinstance" p) [a, .Tuple as kk p2] [] pos) (tV Θ e W fun ρ => bnd (f ρ) (isiM ts)) := by
  obtain ⟨vs, us, hpa, hc, hk, hlen⟩ := tys_pa G ht h hx
  have st := starEach_ns (es := [.Tuple as kk p2]) (env := X.env) hs
  refine peI (pe_callB call_isiT (gl_of (by rw [G.hs]; exact hg)) (free_mg G (by decide)) (by decide +kernel) (pa_cons h1 (pa_cons (pe_tup hpa) pa_nil rfl) st) (by decide) (by decide) st rfl) fun σ H Q q => ?_
  refine v_un (r := fun x H1 Q => vs.length ≤ sizeLine ∧ ∀ p, H1 p = none → rIsiT X.K [x, .ref p] (upd H1 p (.tup vs)) Q) (fun {σ Q F F2 b b2 H H2 P E v' x} post x1 w w2 r1 m => ?_) σ H Q q
  obtain ⟨kn, m⟩ := m
  refine ⟨by rw [hlen, sizeLine_eq]; omega, fun p np => ?_⟩
  have y : Ext Θ F2 b2 H2 F2 b2 (upd H2 p (.tup vs)) := Ext.new' np
  obtain ⟨tt, h3, h4, h5⟩ := ty_of G (w2.ext y) (r1.ext y w2).sees kn
  rw [G.hK]
  exact ⟨v', p, vs, tt, us, _, rfl, upd_same, hc, h3, hk h5 h4, post.sc (x1.trans y w) (.bl _) m⟩
end
end VL
end
-- V7
section
set_option Elab.async false
set_option linter.all false
set_option maxRecDepth 100000
set_option maxHeartbeats 4000000
/-! Walks: lists, tuples, ranges, enumerate, zip, by values. -/
namespace VL
open PySem PySem.Spec PyProof.Rows
open L2 hiding St

/-! ### sources: a list (k) or a tuple -/
def Sq (K : PySem.W.Frag) (k : Bool) (H : Hp) (a : Addr) (xs : List V) : Prop := match k with
  | true => SqL K H a xs
  | false => SqT K H a xs
def SAt (h : Heap) (k : Bool) (it a : Addr) (i : Nat) : Prop := match k with
  | true => h.IsListIter it a i
  | false => h.IsTupleIter it a i
def SHas (h : Heap) (k : Bool) (a : Addr) (its : Array Value) : Prop := match k with
  | true => h.IsList a its
  | false => h.IsTuple a its
def sName : Bool → String
  | true => "list_iterator"
  | false => "tuple_iterator"
def sObj (k : Bool) (a : Addr) : Obj := { cls := .type (sName k), data := .fields #[.ref a, .int 0 0] }
theorem sDraws {prog : Program} {w : World} {A : Around} (hh : A.handled = none) (k : Bool) (it a : Addr) (hne : a ≠ it) (items : Array Value) :
    Draws prog w A it [it, a] items.size (fun i v => items[i]? = some v) (fun i h => SAt h k it a i ∧ SHas h k a items) := by
  cases k with
  | true => exact Draws.list hh it a hne items
  | false => exact Draws.tuple hh it a hne items
theorem sBegins (k : Bool) (a : Addr) (items : Array Value) : Begins (.ref a) (sObj k a) (fun h => SHas h k a items) := by
  cases k with
  | true => exact begins_list a items
  | false => exact begins_tuple a items
theorem sAt_new {h : Heap} {k : Bool} {it a : Addr} (e : h.get? it = some (sObj k a)) : SAt h k it a 0 := by
  cases k with
  | true => exact ⟨_, e, rfl, rfl⟩
  | false => exact ⟨_, e, rfl, rfl⟩
theorem sAt_obj {h : Heap} {k : Bool} {it a : Addr} {i : Nat} (s : SAt h k it a i) : ∃ o, h.get? it = some o ∧ ∀ v, o.data ≠ .cell v := by
  cases k with
  | true => obtain ⟨o, e, _, d⟩ := s; exact ⟨o, e, fun v q => by rw [d] at q; cases q⟩
  | false => obtain ⟨o, e, _, d⟩ := s; exact ⟨o, e, fun v q => by rw [d] at q; cases q⟩
theorem sAt_keep {h h' : Heap} {k : Bool} {it a : Addr} {i : Nat} (s : SAt h k it a i) (kp : ∀ o, h.get? it = some o → h'.get? it = some o) : SAt h' k it a i := by
  cases k with
  | true => exact Heap.IsListIter.at s kp
  | false => exact Heap.IsTupleIter.at s kp
theorem sq_has {X : Cx} {pins : List (Addr × Obj)} {σ : St} {H : Hp} {s : Shared} {k : Bool} {a : Addr} {xs : List V} (I : Inv X pins σ H s) (q : Sq X.K k H a xs) : ∃ its : List Value, Vals xs its ∧ SHas s.heap k a its.toArray ∧ xs.length ≤ sizeLine := by
  cases k with
  | true =>
    obtain ⟨its, rv, p, hz⟩ := I.list q
    exact ⟨its, rv, p.isList, hz⟩
  | false =>
    obtain ⟨its, rv, p, hz⟩ := I.tuple q
    exact ⟨its, rv, p, hz⟩
/-! ### an iterator of new tuples -/
def JT (ok : Hp → Prop) (n : Nat) (l : Nat → List V) : It := ⟨fun i H => ok H ∧ i < n, fun i H v H' => ∃ T, v = .ref T ∧ H T = none ∧ H' = upd H T (.tup (l i)), fun i H => ok H ∧ i = n⟩
theorem turn_goes {P : Program} {w : World} {K : PySem.W.Frag} {tg : Expr} {I : Addr} {fp : List Addr} {ok : Hp → Prop} {n : Nat} {l : Nat → List V} {tn : Nat → Heap → Prop}
    (mem : I ∈ fp) (obj : ∀ i h, tn i h → ∀ b ∈ fp, ∃ o, h.get? b = some o ∧ ∀ v, o.data ≠ .cell v) (keep : ∀ i h h', tn i h → (∀ b ∈ fp, ∀ o, h.get? b = some o → h'.get? b = some o) → tn i h')
    (self : ∀ (A : Around) (i : Nat) (s : Shared) (Q : Value → Shared → Prop) (E : Value → Shared → Prop), tn i s.heap → Q (.ref I) s → wpAny (model P w) A (pyIter (.ref I)) Q E s)
    (st : ∀ (X : Cx), X.prog = P → X.w = w → X.K = K → X.A.handled = none → ∀ (i : Nat) (pins : List (Addr × Obj)) (s : Shared) (σ : St) (H : Hp), Inv X pins σ H s → tn i s.heap → ok H → i ≤ n →
      ∃ (fg wr : List Addr) (Y : Nat → Heap → Value → Heap → Prop) (Sg : Nat → Heap → Prop), (∀ b ∈ wr, b ∈ fp) ∧ GoesN P w X.A tg I fg wr n Y Sg ∧ Sg i s.heap ∧ (∀ h', Sg (i + 1) h' → tn (i + 1) h') ∧
        ∀ v h', i < n → Y i s.heap v h' → ∃ T vals, v = .ref T ∧ s.heap.objs.size ≤ T ∧ h'.IsTuple T vals ∧ Vals (l i) vals.toList ∧ (l i).length ≤ sizeLine) : Turn P w K tg (JT ok n l) fp I tn where
  mem := mem
  obj := obj
  keep := keep
  self := self
  item := by
    intro X hP hw hK hc i pins s σ H E Iv hf t hg
    obtain ⟨hok, hlt⟩ := hg
    obtain ⟨fg, wr, Y, Sg, sub, W, s0, s1, hy⟩ := st X hP hw hK (Iv.ok.hd hc) i pins s σ H Iv t hok (Nat.le_of_lt hlt)
    subst hP hw hK
    refine W.goes i s (fun v s2 => ∃ x H', Inv X pins σ H' s2 ∧ RelV x v ∧ (JT ok n l).yld i H x H' ∧ tn (i + 1) s2.heap ∧ ∀ b ∈ fp, H' b = none) E hlt s0 fun v h' tk hY st' hk htk => ?_
    obtain ⟨T, vals, rfl, hT, ht, hv, hl⟩ := hy v h' hlt hY
    have new : ObjOk X.prog X.w (upd H T (.tup (l i))) h' T (.tup (l i)) := ⟨hl, vals.toList, hv, by rw [Array.toArray_toList]; exact ht⟩
    have I1 : Inv X pins σ (upd H T (.tup (l i))) { s with heap := h', toks := tk } := Iv.turnedNew (ch := fp) (fun b o hb q => hk b o (fun z => hb (sub b z)) q) hf hT new
    refine ⟨.ref T, _, I1, rfl, ⟨T, rfl, Iv.hok.fresh hT, rfl⟩, s1 _ st', fun b hb => ?_⟩
    obtain ⟨o, e, _⟩ := obj i _ t b hb
    rw [upd_ne (Nat.ne_of_lt (Nat.lt_of_lt_of_le (Heap.lt_size e) hT))]
    exact (hf b hb).1
  done := by
    intro X hP hw hK hc i pins s σ H E Iv hf t hg
    obtain ⟨hok, rfl⟩ := hg
    obtain ⟨fg, wr, Y, Sg, sub, W, s0, s1, hy⟩ := st X hP hw hK (Iv.ok.hd hc) i pins s σ H Iv t hok (Nat.le_refl _)
    subst hP hw hK
    exact W.stops s (fun s1 => Inv X pins σ H s1) E s0 fun h' tk hk htk => Iv.turnedL (ch := fp) (fun b o hb q => hk b o (fun z => hb (sub b z)) q) hf

/-! ### enumerate -/
theorem arr_get {its : List Value} {i : Nat} {x : Value} (h : its.toArray[i]? = some x) : its[i]? = some x := by simpa using h
theorem vals_at {xs : List V} {its : List Value} {i : Nat} {u : Value} (r : Vals xs its) (h : its[i]? = some u) : RelV (xs.getD i .non) u := by
  have hl := r.length
  have hi : i < its.length := by
    rcases Nat.lt_or_ge i its.length with q | q
    · exact q
    · rw [List.getElem?_eq_none q] at h; cases h
  have hx : xs[i]? = some (xs[i]'(by omega)) := List.getElem?_eq_getElem (by omega)
  obtain ⟨u', e, r'⟩ := r.get hx
  rw [h] at e; cases e
  rw [List.getD_eq_getElem?_getD, hx]
  exact r'
def lEnum (xs : List V) (i : Nat) : List V := [.int (i : Nat), xs.getD i .non]
theorem turn_enumS {P : Program} {w : World} {K : PySem.W.Frag} {elts : List Expr} {kk : Nat} {tpos : Pos} {k : Bool} {a e it : Addr} {xs : List V} (h1 : e ≠ it) (h2 : e ≠ a) (h3 : a ≠ it) :
    Turn P w K (.Tuple elts kk tpos) (JT (fun H => Sq K k H a xs) xs.length (lEnum xs)) [e, it] e (fun i h => (∃ old, IsEnum h e it (0 + (i : Int)) old) ∧ SAt h k it a i) := by
  refine turn_goes (by simp) (fun i h t b hb => ?_) (fun i h h' t kp => ?_) (fun A i s Q E t h => ?_) fun X hP hw hK hh i pins s σ H Iv t q hi => ?_
  · obtain ⟨⟨old, he⟩, hs⟩ := t
    have e' : b = e ∨ b = it := by simpa using hb
    rcases e' with z | z
    · subst z; exact ⟨_, he, fun v q => nomatch q⟩
    · subst z; exact sAt_obj hs
  · obtain ⟨⟨old, he⟩, hs⟩ := t
    exact ⟨⟨old, kp e (by simp) _ he⟩, sAt_keep hs (kp it (by simp))⟩
  · obtain ⟨⟨old, he⟩, hs⟩ := t
    exact wpAny_pyIter_enum he h
  · obtain ⟨⟨old, he⟩, hs⟩ := t
    obtain ⟨its, rv, hh', hz⟩ := sq_has (k := k) Iv (by rw [hK]; exact q)
    have hl := rv.length
    have D := sDraws (prog := P) (w := w) (A := X.A.in1) (show X.A.in1.handled = none from hh) k it a h3 its.toArray
    have W := GoesN.enumFrom (elts := elts) (x1 := kk) (pos := tpos) 0 D e h1 (by simp [h1, h2]) (by simp)
    have en : its.toArray.size = xs.length := by simp [hl]
    rw [en] at W
    refine ⟨_, _, _, _, fun b hb => hb, W, ⟨⟨old, he⟩, hs, hh'⟩, fun h' t' => ⟨t'.1, t'.2.1⟩, fun v h' hlt y => ?_⟩
    obtain ⟨T, t, x, rfl, hT, hx, ht⟩ := y
    refine ⟨T, _, rfl, hT, ht, .cons ⟨t, by rw [Int.zero_add]⟩ (.cons (vals_at rv (arr_get hx)) .nil), by show 2 ≤ sizeLine; decide⟩
def lZip (xs ys : List V) (i : Nat) : List V := [xs.getD i .non, ys.getD i .non]
theorem turn_zipS {P : Program} {w : World} {K : PySem.W.Frag} {elts : List Expr} {kk : Nat} {tpos : Pos} {k k2 : Bool} {a a2 z TI TO i1 i2 : Addr} {xs ys : List V} (S : ZipSep2 z TI TO i1 i2 [i1, a] [i2, a2]) (h1 : a ≠ i1) (h2 : a2 ≠ i2) :
    Turn P w K (.Tuple elts kk tpos) (JT (fun H => Sq K k H a xs ∧ Sq K k2 H a2 ys) (min xs.length ys.length) (lZip xs ys)) [z, TI, TO, i1, i2] z
      (fun i h => IsZip h z TI TO .none ∧ IsTupOf2 h TI (.ref i1) (.ref i2) ∧ (∃ a1 a2, IsTupOf2 h TO a1 a2) ∧ SAt h k i1 a i ∧ SAt h k2 i2 a2 i) := by
  refine turn_goes (by simp) (fun i h t b hb => ?_) (fun i h h' t kp => ?_) (fun A i s Q E t h => ?_) fun X hP hw hK hh i pins s σ H Iv t q hi => ?_
  · obtain ⟨hz, hTI, ⟨_, _, hTO⟩, hs, hs2⟩ := t
    have e' : b = z ∨ b = TI ∨ b = TO ∨ b = i1 ∨ b = i2 := by simpa using hb
    rcases e' with q | q | q | q | q
    · subst q; exact ⟨_, hz, fun v q => nomatch q⟩
    · subst q; exact ⟨_, hTI, fun v q => nomatch q⟩
    · subst q; exact ⟨_, hTO, fun v q => nomatch q⟩
    · subst q; exact sAt_obj hs
    · subst q; exact sAt_obj hs2
  · obtain ⟨hz, hTI, ⟨a1, a2, hTO⟩, hs, hs2⟩ := t
    exact ⟨kp z (by simp) _ hz, kp TI (by simp) _ hTI, ⟨a1, a2, kp TO (by simp) _ hTO⟩, sAt_keep hs (kp i1 (by simp)), sAt_keep hs2 (kp i2 (by simp))⟩
  · exact wpAny_pyIter_zip t.1 h
  · obtain ⟨hz, hTI, hTO, hs, hs2⟩ := t
    obtain ⟨its, rv, hh', hzz⟩ := sq_has (k := k) Iv (by rw [hK]; exact q.1)
    obtain ⟨its2, rv2, hh2, hzz2⟩ := sq_has (k := k2) Iv (by rw [hK]; exact q.2)
    have hl := rv.length
    have hl2 := rv2.length
    have D1 := sDraws (prog := P) (w := w) (A := X.A.in1) (show X.A.in1.handled = none from hh) k i1 a h1 its.toArray
    have D2 := sDraws (prog := P) (w := w) (A := X.A.in1) (show X.A.in1.handled = none from hh) k2 i2 a2 h2 its2.toArray
    have W := GoesN.zip2 (elts := elts) (x1 := kk) (pos := tpos) S D1 D2
    have en : its.toArray.size = xs.length := by simp [hl]
    have en2 : its2.toArray.size = ys.length := by simp [hl2]
    rw [en, en2] at W
    refine ⟨_, _, _, _, fun b hb => ?_, W, ⟨hz, hTI, hTO, ⟨hs, hh'⟩, hs2, hh2⟩, fun h' t' => ⟨t'.1, t'.2.1, t'.2.2.1, t'.2.2.2.1.1, t'.2.2.2.2.1⟩, fun v h' hlt y => ?_⟩
    · have e' : b = z ∨ b = TO ∨ b = i1 ∨ b = i2 := by simpa using hb
      rcases e' with q | q | q | q <;> simp [q]
    · obtain ⟨T, x, u, rfl, hT, hx, hu, ht⟩ := y
      exact ⟨T, _, rfl, hT, ht, .cons (vals_at rv (arr_get hx)) (.cons (vals_at rv2 (arr_get hu)) .nil), by show 2 ≤ sizeLine; decide⟩
end VL
end
-- V8
section
set_option Elab.async false
set_option linter.all false
set_option maxRecDepth 100000
set_option maxHeartbeats 4000000
/-! Walks by data: what is walked, what each turn gives. -/
namespace VL
open PySem PySem.Spec PyProof.Rows
open L2 hiding St

/-! ### enumerate(v), v a list or a tuple -/
theorem enum1_meets {v : Value} {ob : Obj} {C : Heap → Prop} (B : Begins v ob C) :
    Meets (Builtin.«enumerate.__new__» ⟨[.type "enumerate", v], []⟩) (fun _ R z => C z.heap ∧
      R (.ok (.ret (.ref (z.heap.push ob).objs.size))) { z with heap := (z.heap.push ob).push { cls := .type "enumerate", data := .fields #[.none, .bool false, .ref z.heap.objs.size, rawInt 0, .none, .none] } }) :=
  .of_wp fun prog w A R z hz => by
    obtain ⟨hp, gg, dd, tt, oo⟩ := z
    obtain ⟨c1, hz⟩ := hz
    have sub1 := sub_enumerate
    have it1 : ∀ {A2 : Around} {E2 : Value → Shared → Prop} {Q2 : Value → Shared → Prop}, Q2 (.ref hp.objs.size) ⟨hp.push ob, gg, dd, tt, oo⟩ → wpAny (model prog w) A2 (pyIter v) Q2 E2 ⟨hp, gg, dd, tt, oo⟩ :=
      fun q => B.iter prog w _ _ ⟨hp, gg, dd, tt, oo⟩ _ c1 q
    wp_walk using it1
    refine wpAny_stack_any fun frames => wpAny_pure ?_
    split
    · rename_i c _ _ _ _ _
      cases (c == Value.type "enumerate") <;> (wp_walk using it1; exact ⟨_, rfl, hz⟩)
    · wp_walk using it1
      exact ⟨_, rfl, hz⟩
section
variable {prog : Program} {w : World} {A : Around} {E : Value → Shared → Prop} {s : Shared}
theorem call_enum1 {v : Value} {ob : Obj} {C : Heap → Prop} {Q : Value → Shared → Prop} (B : Begins v ob C) (c1 : C s.heap)
    (h : ∀ h', IsEnum h' (s.heap.objs.size + 1) s.heap.objs.size 0 .none → h'.get? s.heap.objs.size = some ob → (∀ b o, s.heap.get? b = some o → h'.get? b = some o) → Q (.ref (s.heap.objs.size + 1)) { s with heap := h' }) :
    wpAny (model prog w) A (call (.type "enumerate") [v]) Q E s := by
  refine callType_new F.called_enumerate (by decide) (F.typeCall_enumerate_1 _) (F.newCall_enumerate_1 _) (fun obj => F.args_object_init_2 obj _) F.entry_enumerate_new (enum1_meets B) ⟨c1, ?_⟩
  have z1 : (s.heap.push ob).objs.size = s.heap.objs.size + 1 := Heap.size_push ..
  have e1 := Heap.get?_push_size (s.heap.push ob) (o := { cls := .type "enumerate", data := .fields #[.none, .bool false, .ref s.heap.objs.size, rawInt 0, .none, .none] }) rfl
  show _ ∧ _
  rw [z1] at e1 ⊢
  exact ⟨⟨_, e1, rfl⟩, h _ e1 (Heap.get?_push_of_some _ (Heap.get?_push_size _ B.free)) fun b o x => Heap.get?_push_of_some _ (Heap.get?_push_of_some _ x)⟩
end

/-! ### the text's iterators -/
def Jsq (K : PySem.W.Frag) (k : Bool) (a : Addr) : It := match k with
  | true => Itl K a
  | false => Itt K a
section
variable {X : Cx} {tg : Expr}
theorem pi_seqW {l : Expr} {tl : TE} (hl : PE X l tl) : PI X tg l (fun σ H R => tl σ H fun x H1 => ∃ k a xs, x = .ref a ∧ Sq X.K k H1 a xs ∧ R (Jsq X.K k a) H1) := by
  refine ⟨fun pins s σ H R Iv h => ?_⟩
  refine thn (hl.run pins s σ H _ Iv h) fun v s1 ⟨x, H1, I1, r1, k, a, xs, ex, hq, q⟩ => ?_
  subst ex
  cases r1
  have one : ∀ b ∈ [s1.heap.objs.size], FpOk X pins H1 b := fun b hb => by
    rw [List.mem_singleton.mp hb]
    exact I1.fpOk (Nat.le_refl _) (I1.hok.fresh (Nat.le_refl _))
  cases k with
  | true =>
    obtain ⟨its, rv, p, hz⟩ := I1.list hq
    exact wpAny_pyIter_list p.isList ⟨s1.heap.objs.size, [s1.heap.objs.size], _, _, H1, rfl, I1.kept (t' := s1.toks) fun b o e => Heap.get?_push_of_some _ e, turn_list a _, ⟨_, Heap.get?_push_size _ rfl, rfl, rfl⟩, one, q⟩
  | false =>
    obtain ⟨its, rv, p, hz⟩ := I1.tuple hq
    exact wpAny_pyIter_tuple (show s1.heap.IsTuple a its.toArray from p) ⟨s1.heap.objs.size, [s1.heap.objs.size], _, _, H1, rfl, I1.kept (t' := s1.toks) fun b o e => Heap.get?_push_of_some _ e, turn_tuple a _, ⟨_, Heap.get?_push_size _ rfl, rfl, rfl⟩, one, q⟩
theorem sq_lt {pins : List (Addr × Obj)} {σ : St} {H : Hp} {s : Shared} {k : Bool} {a : Addr} {xs : List V} (I : Inv X pins σ H s) (q : Sq X.K k H a xs) : a < s.heap.objs.size := by
  cases k with
  | true => obtain ⟨its, rv, p, hz⟩ := I.list q; exact p.lt
  | false =>
    obtain ⟨its, rv, p, hz⟩ := I.tuple q
    obtain ⟨o, e, _⟩ := (show s.heap.IsTuple a its.toArray from p)
    exact Heap.lt_size e
variable {elts : List Expr} {kk : Nat} {tpos p pos : Pos}
theorem pi_enumW {e : Expr} {ta : TA} (hg : Gl X "enumerate") (hm : X.mg "enumerate" = none) (ha : PA X [e] ta) (hs : notStar e = true) :
    PI X (.Tuple elts kk tpos) (.Call (.Name "enumerate" p) [e] [] pos) (fun σ H R => ta σ H fun vs H1 => ∃ k a xs, vs = [.ref a] ∧ Sq X.K k H1 a xs ∧ R (JT (fun H => Sq X.K k H a xs) xs.length (lEnum xs)) H1) := by
  have st := starEach_ns (es := []) (env := X.env) hs
  refine ⟨fun pins s σ H R Iv h => ?_⟩
  refine Call_ (ld_blt Iv hg hm boot_enumerate (PyProof.Rows.callWith_type1 (thn (ha.run pos pins s σ H _ Iv h) fun us s1 ⟨vs, H1, I1, r1, k, a, xs, ex, hq, q⟩ => ?_) st rfl))
  subst ex
  obtain ⟨u, rfl, ru⟩ := vals1 r1
  cases (show u = Value.ref a from ru)
  obtain ⟨its, rv, hh, hz⟩ := sq_has I1 hq
  have hlt := sq_lt I1 hq
  refine call_enum1 (sBegins k a its.toArray) hh fun h' he hit hk => wpAny_pyIter_enum he ?_
  have I2 : Inv X pins σ H1 { s1 with heap := h' } := I1.kept (t' := s1.toks) hk
  refine ⟨s1.heap.objs.size + 1, [s1.heap.objs.size + 1, s1.heap.objs.size], _, _, H1, rfl, I2, turn_enumS (k := k) (a := a) (xs := xs) (Nat.succ_ne_self _) (Nat.ne_of_gt (Nat.lt_succ_of_lt hlt)) (Nat.ne_of_lt hlt), ⟨⟨.none, by simpa using he⟩, sAt_new hit⟩, fun b hb => ?_, q⟩
  have hb' : b = s1.heap.objs.size + 1 ∨ b = s1.heap.objs.size := by simpa using hb
  have hle : s1.heap.objs.size ≤ b := by
    rcases hb' with z | z
    · rw [z]; exact Nat.le_succ _
    · rw [z]; exact Nat.le_refl _
  exact I1.fpOk hle (I1.hok.fresh hle)
theorem pi_zipW {e e2 : Expr} {ta : TA} (hg : Gl X "zip") (hm : X.mg "zip" = none) (ha : PA X [e, e2] ta) (hs : notStar e = true) (hs2 : notStar e2 = true) :
    PI X (.Tuple elts kk tpos) (.Call (.Name "zip" p) [e, e2] [] pos) (fun σ H R => ta σ H fun vs H1 => ∃ k k2 a a2 xs ys, vs = [.ref a, .ref a2] ∧ Sq X.K k H1 a xs ∧ Sq X.K k2 H1 a2 ys ∧ R (JT (fun H => Sq X.K k H a xs ∧ Sq X.K k2 H a2 ys) (min xs.length ys.length) (lZip xs ys)) H1) := by
  have st := starEach_ns (es := [e2]) (env := X.env) hs
  have st2 := starEach_ns (es := []) (env := X.env) hs2
  refine ⟨fun pins s σ H R Iv h => ?_⟩
  refine Call_ (ld_blt Iv hg hm PyProof.Rows.boot_zip (PyProof.Rows.callWith_type1 (thn (ha.run pos pins s σ H _ Iv h) fun us s1 ⟨vs, H1, I1, r1, k, k2, a, a2, xs, ys, ex, hq, hq2, q⟩ => ?_) st (by rw [st2]; rfl)))
  subst ex
  obtain ⟨u, u2, rfl, ru, ru2⟩ := vals2 r1
  cases (show u = Value.ref a from ru)
  cases (show u2 = Value.ref a2 from ru2)
  obtain ⟨its, rv, hh, hz⟩ := sq_has I1 hq
  obtain ⟨its2, rv2, hh2, hz2⟩ := sq_has I1 hq2
  have hlt := sq_lt I1 hq
  have hlt2 := sq_lt I1 hq2
  refine zip_begins2 (sBegins k a its.toArray) (sBegins k2 a2 its2.toArray) hh hh2 fun h' hz hTI hTO h1 h2 hsz hk => wpAny_pyIter_zip hz ?_
  have I2 : Inv X pins σ H1 { s1 with heap := h' } := I1.kept (t' := s1.toks) hk
  have S : ZipSep2 (s1.heap.objs.size + 4) (s1.heap.objs.size + 2) (s1.heap.objs.size + 3) s1.heap.objs.size (s1.heap.objs.size + 1) [s1.heap.objs.size, a] [s1.heap.objs.size + 1, a2] :=
    zip_sep2 (fp1 := [a]) (fp2 := [a2]) (fun b hb => by rw [List.mem_singleton.mp hb]; exact hlt) (fun b hb => by rw [List.mem_singleton.mp hb]; exact hlt2)
  refine ⟨s1.heap.objs.size + 4, [s1.heap.objs.size + 4, s1.heap.objs.size + 2, s1.heap.objs.size + 3, s1.heap.objs.size, s1.heap.objs.size + 1], _, _, H1, rfl, I2,
    turn_zipS (k := k) (k2 := k2) (xs := xs) (ys := ys) S (Nat.ne_of_lt hlt) (Nat.ne_of_lt (Nat.lt_succ_of_lt hlt2)), ⟨hz, hTI, ⟨_, _, hTO⟩, sAt_new h1, sAt_new h2⟩, fun b hb => ?_, q⟩
  have hle : s1.heap.objs.size ≤ b := by
    have hb' : b = s1.heap.objs.size + 4 ∨ b = s1.heap.objs.size + 2 ∨ b = s1.heap.objs.size + 3 ∨ b = s1.heap.objs.size ∨ b = s1.heap.objs.size + 1 := by simpa using hb
    rcases hb' with z | z | z | z | z <;> rw [z]
    · exact Nat.le_add_right _ _
    · exact Nat.le_add_right _ _
    · exact Nat.le_add_right _ _
    · exact Nat.le_refl _
    · exact Nat.le_add_right _ _
  exact I1.fpOk hle (I1.hok.fresh hle)
end

/-! ### walks of data -/
/-- what is walked is this -/
inductive WalkIs : Ik → List R → List D → Prop
  | seq {r : R} {xs : List D} : r.d.items = some xs → WalkIs .seq [r] xs
  | rng1 {r : R} {j : Int} : r.d = .int j → -(2 ^ 62) ≤ j → j < 2 ^ 62 → WalkIs .rng [r] (rngD 0 j.toNat)
  | rng2 {r q : R} {i j : Int} : r.d = .int i → q.d = .int j → -(2 ^ 62) ≤ i → i < 2 ^ 62 → -(2 ^ 62) ≤ j → j < 2 ^ 62 → WalkIs .rng2 [r, q] (rngD i (j - i).toNat)
  | enum {r : R} {xs : List D} : r.d.items = some xs → WalkIs .enum [r] (enumD 0 xs)
  | zip {r q : R} {xs ys : List D} : r.d.items = some xs → q.d.items = some ys → WalkIs .zip [r, q] (zipD xs ys)
theorem walk_is {k : Ik} {rs : List R} {P : List D → Nat → Prop} {E : XD → Nat → Prop} {b : Nat} (m : walkD k rs P E b) : ∃ ds, WalkIs k rs ds ∧ P ds b := by
  unfold walkD at m
  split at m
  · rename_i r
    cases h : r.d.items with
    | none => rw [h] at m; exact m.elim
    | some xs => rw [h] at m; exact ⟨xs, .seq h, m⟩
  · rename_i r
    cases h : r.d <;> simp only [h] at m <;> try exact m.elim
    exact ⟨_, .rng1 h m.1.1 m.1.2, m.2⟩
  · rename_i r q
    cases h : r.d <;> simp only [h] at m <;> try exact m.elim
    cases h2 : q.d <;> simp only [h2] at m <;> try exact m.elim
    exact ⟨_, .rng2 h h2 m.1.1 m.1.2.1 m.1.2.2.1 m.1.2.2.2, m.2⟩
  · rename_i r
    cases h : r.d.items with
    | none => simp only [h] at m; exact m.elim
    | some xs => simp only [h] at m; exact ⟨_, .enum h, m⟩
  · rename_i r q
    cases h : r.d.items with
    | none => simp only [h] at m; exact m.elim
    | some xs =>
      cases h2 : q.d.items with
      | none => simp only [h, h2] at m; exact m.elim
      | some ys => simp only [h, h2] at m; exact ⟨_, .zip h h2, m⟩
  · exact m.elim
/-- an iterator gives ds, from F H on, as long as G holds -/
structure WD (Θ : Th) (J : It) (ds : List D) (F : Addr → Prop) (b : Nat) (H : Hp) (G : Hp → Prop) (kp : Bool) : Prop where
  hold : G H
  ext : ∀ F2 b2 H2, Ext Θ F b H F2 b2 H2 → G H2
  kept : kp = true → ∀ H2 : Hp, (∀ a o, F a → H a = some o → H2 a = some o) → G H2
  go : ∀ i H2, i < ds.length → G H2 → J.go i H2
  stop : ∀ H2, G H2 → J.stop ds.length H2
  yld : ∀ i F2 b2 H2 x H3, i < ds.length → G H2 → (∀ a, F a → F2 a) → (∀ a o, F a → H a = some o → H2 a = some o) → Wd Θ F2 b2 H2 → J.yld i H2 x H3 → ∃ F3 d, ds[i]? = some d ∧ Ext Θ F2 b2 H2 F3 b2 H3 ∧ Rep Θ F3 H3 x d
def isVal : R → Bool
  | .val _ => true
  | _ => false
section
variable {Θ : Th} {F F' : Addr → Prop} {b b' : Nat} {H H0 H' : Hp}
/-- a source -/
theorem src_ok {v : V} {r : R} {xs : List D} (h : RepR Θ H0 F H v r) (hx : r.d.items = some xs) (w : Wd Θ F b H) :
    ∃ k a vs, v = .ref a ∧ Sq Θ.K k H a vs ∧ RepL Θ F H vs xs ∧ (∀ F2 b2 H2, Ext Θ F b H F2 b2 H2 → Sq Θ.K k H2 a vs) ∧ (isVal r = true → ∀ H2 : Hp, (∀ a o, F a → H a = some o → H2 a = some o) → Sq Θ.K k H2 a vs) := by
  have lst : ∀ {a : Addr} {vs : List V}, H a = some (.lst vs) → Θ.pa ≠ some a → ∀ F2 b2 H2, Ext Θ F b H F2 b2 H2 → Sq Θ.K true H2 a vs := fun {a vs} e hp F2 b2 H2 x => SqL.of (x.h a _ e hp noTab_lst)
  cases r with
  | val d =>
    cases (show Rep Θ F H v d from h) with
    | @tup a vs ds f e rl =>
      cases hx
      exact ⟨false, a, vs, rfl, SqT.of e, rl, fun F2 b2 H2 x => SqT.of (x.keep w a _ f e), fun _ H2 kp => SqT.of (kp a _ f e)⟩
    | @ktup a vs ds kt rl =>
      cases hx
      exact ⟨false, a, vs, rfl, .inr kt, rl, fun F2 b2 H2 x => .inr kt, fun _ H2 kp => .inr kt⟩
    | @lst a vs ds f e rl =>
      cases hx
      exact ⟨true, a, vs, rfl, SqL.of e, rl, fun F2 b2 H2 x => SqL.of (x.keep w a _ f e), fun _ H2 kp => SqL.of (kp a _ f e)⟩
    | _ => cases hx
  | own d =>
    obtain ⟨a, ev, n, p, c⟩ := h
    cases d <;> try exact c.elim
    · cases hx
      obtain ⟨vs, e, rl⟩ := c
      exact ⟨true, a, vs, ev, SqL.of e, rl, lst e p, fun z => by cases z⟩
    · cases hx
  | frs d =>
    obtain ⟨a, ev, n, p, t, c⟩ := h
    cases d <;> try exact c.elim
    · cases hx
      obtain ⟨vs, e, rl⟩ := c
      exact ⟨true, a, vs, ev, SqL.of e, rl, lst e p, fun z => by cases z⟩
    · cases hx
theorem wd_seq {k : Bool} {a : Addr} {vs : List V} {xs : List D} {kp : Bool} (rl : RepL Θ F H vs xs) (h0 : Sq Θ.K k H a vs) (h1 : ∀ F2 b2 H2, Ext Θ F b H F2 b2 H2 → Sq Θ.K k H2 a vs) (h2 : kp = true → ∀ H2 : Hp, (∀ a o, F a → H a = some o → H2 a = some o) → Sq Θ.K k H2 a vs) :
    WD Θ (Jsq Θ.K k a) xs F b H (fun H2 => Sq Θ.K k H2 a vs) kp where
  hold := h0
  ext := h1
  kept := h2
  go := fun i H2 hi g => by
    have hl := rl.length
    cases k <;> exact ⟨vs, vs[i]'(by omega), g, List.getElem?_eq_getElem (by omega)⟩
  stop := fun H2 g => by
    have hl := rl.length
    cases k <;> exact ⟨vs, g, by omega⟩
  yld := fun i F2 b2 H2 x H3 hi g hf kp w y => by
    have hl := rl.length
    have e : H3 = H2 ∧ vs[i]? = some x := by
      cases k <;> exact ⟨y.1, y.2 vs g⟩
    obtain ⟨rfl, e⟩ := e
    obtain ⟨d, e2, r⟩ := rl.get' e
    exact ⟨F2, d, e2, .refl, r.mono hf kp⟩
theorem rngD_length (i : Int) (n : Nat) : (rngD i n).length = n := by
  induction n generalizing i with
  | zero => rfl
  | succ n ih => rw [rngD, List.length_cons, ih]
theorem rngD_get (i : Int) (n j : Nat) (h : j < n) : (rngD i n)[j]? = some (.int (i + j)) := by
  induction n generalizing i j with
  | zero => omega
  | succ n ih =>
    rw [rngD]
    cases j with
    | zero => simp
    | succ j =>
      rw [List.getElem?_cons_succ, ih (i + 1) j (by omega)]
      congr 2
      omega
theorem wd_rng {i : Int} {n : Nat} {kp : Bool} : WD Θ (Itr i n) (rngD i n) F b H (fun _ => True) kp where
  hold := trivial
  ext := fun _ _ _ _ => trivial
  kept := fun _ _ _ => trivial
  go := fun j H2 hj _ => by rw [rngD_length] at hj; exact hj
  stop := fun H2 _ => by rw [rngD_length]; exact Nat.le_refl _
  yld := fun j F2 b2 H2 x H3 hj g hf kp w y => by
    rw [rngD_length] at hj
    obtain ⟨rfl, rfl⟩ := y
    exact ⟨F2, _, rngD_get i n j hj, .refl, .int _⟩
theorem enumD_length (i : Int) (xs : List D) : (enumD i xs).length = xs.length := by
  induction xs generalizing i with
  | nil => rfl
  | cons x xs ih => rw [enumD, List.length_cons, List.length_cons, ih]
theorem enumD_get (i : Int) (xs : List D) (j : Nat) {x : D} (h : xs[j]? = some x) : (enumD i xs)[j]? = some (.tup [.int (i + j), x]) := by
  induction xs generalizing i j with
  | nil => simp at h
  | cons y xs ih =>
    rw [enumD]
    cases j with
    | zero => simp at h; subst h; simp
    | succ j =>
      rw [List.getElem?_cons_succ, ih (i + 1) j (by simpa using h)]
      congr 4
      omega
theorem zipD_length (xs ys : List D) : (zipD xs ys).length = min xs.length ys.length := by
  induction xs generalizing ys with
  | nil => simp [zipD]
  | cons x xs ih =>
    cases ys with
    | nil => simp [zipD]
    | cons y ys => rw [zipD, List.length_cons, ih, List.length_cons, List.length_cons]; omega
theorem zipD_get (xs ys : List D) (j : Nat) {x y : D} (h : xs[j]? = some x) (h2 : ys[j]? = some y) : (zipD xs ys)[j]? = some (.tup [x, y]) := by
  induction xs generalizing ys j with
  | nil => simp at h
  | cons z xs ih =>
    cases ys with
    | nil => simp at h2
    | cons u ys =>
      rw [zipD]
      cases j with
      | zero => simp at h h2; subst h h2; simp
      | succ j => rw [List.getElem?_cons_succ]; exact ih ys j (by simpa using h) (by simpa using h2)
theorem getD_of {vs : List V} {i : Nat} {v : V} (h : vs[i]? = some v) : vs.getD i .non = v := by rw [List.getD_eq_getElem?_getD, h]; rfl
theorem wd_enum {k : Bool} {a : Addr} {vs : List V} {xs : List D} {kp : Bool} (rl : RepL Θ F H vs xs) (h0 : Sq Θ.K k H a vs) (h1 : ∀ F2 b2 H2, Ext Θ F b H F2 b2 H2 → Sq Θ.K k H2 a vs) (h2 : kp = true → ∀ H2 : Hp, (∀ a o, F a → H a = some o → H2 a = some o) → Sq Θ.K k H2 a vs) :
    WD Θ (JT (fun H => Sq Θ.K k H a vs) vs.length (lEnum vs)) (enumD 0 xs) F b H (fun H2 => Sq Θ.K k H2 a vs) kp where
  hold := h0
  ext := h1
  kept := h2
  go := fun i H2 hi g => ⟨g, by rw [enumD_length, ← rl.length] at hi; exact hi⟩
  stop := fun H2 g => ⟨g, by rw [enumD_length, ← rl.length]⟩
  yld := fun i F2 b2 H2 x H3 hi g hf kp w y => by
    rw [enumD_length] at hi
    obtain ⟨T, rfl, hT, rfl⟩ := y
    have e : xs[i]? = some xs[i] := List.getElem?_eq_getElem hi
    obtain ⟨v, ev, rv⟩ := rl.get e
    have el : lEnum vs i = [.int (i : Nat), v] := by unfold lEnum; rw [getD_of ev]
    have y := Ext.new (Θ := Θ) (F := F2) (b := b2) (o := .tup (lEnum vs i)) hT noTab_tup w
    rw [el] at y ⊢
    refine ⟨_, _, enumD_get 0 xs i e, y, Rep.tup (.inr rfl) upd_same ?_⟩
    exact .cons (by rw [Int.zero_add]; exact .int _) (.cons ((rv.mono hf kp).ext y w) .nil)
theorem wd_zip {k k2 : Bool} {a a2 : Addr} {vs us : List V} {xs ys : List D} {kp : Bool} (rl : RepL Θ F H vs xs) (rl2 : RepL Θ F H us ys) (h0 : Sq Θ.K k H a vs) (h1 : ∀ F2 b2 H2, Ext Θ F b H F2 b2 H2 → Sq Θ.K k H2 a vs) (h2 : kp = true → ∀ H2 : Hp, (∀ a o, F a → H a = some o → H2 a = some o) → Sq Θ.K k H2 a vs)
    (g0 : Sq Θ.K k2 H a2 us) (g1 : ∀ F2 b2 H2, Ext Θ F b H F2 b2 H2 → Sq Θ.K k2 H2 a2 us) (g2 : kp = true → ∀ H2 : Hp, (∀ a o, F a → H a = some o → H2 a = some o) → Sq Θ.K k2 H2 a2 us) :
    WD Θ (JT (fun H => Sq Θ.K k H a vs ∧ Sq Θ.K k2 H a2 us) (min vs.length us.length) (lZip vs us)) (zipD xs ys) F b H (fun H2 => Sq Θ.K k H2 a vs ∧ Sq Θ.K k2 H2 a2 us) kp where
  hold := ⟨h0, g0⟩
  ext := fun F2 b2 H2 x => ⟨h1 F2 b2 H2 x, g1 F2 b2 H2 x⟩
  kept := fun z H2 x => ⟨h2 z H2 x, g2 z H2 x⟩
  go := fun i H2 hi g => ⟨g, by rw [zipD_length, ← rl.length, ← rl2.length] at hi; exact hi⟩
  stop := fun H2 g => ⟨g, by rw [zipD_length, ← rl.length, ← rl2.length]⟩
  yld := fun i F2 b2 H2 x H3 hi g hf kp w y => by
    rw [zipD_length] at hi
    obtain ⟨T, rfl, hT, rfl⟩ := y
    have e : xs[i]? = some (xs[i]'(by omega)) := List.getElem?_eq_getElem (by omega)
    have e2 : ys[i]? = some (ys[i]'(by omega)) := List.getElem?_eq_getElem (by omega)
    obtain ⟨v, ev, rv⟩ := rl.get e
    obtain ⟨u, eu, ru⟩ := rl2.get e2
    have el : lZip vs us i = [v, u] := by unfold lZip; rw [getD_of ev, getD_of eu]
    have y := Ext.new (Θ := Θ) (F := F2) (b := b2) (o := .tup (lZip vs us i)) hT noTab_tup w
    rw [el] at y ⊢
    refine ⟨_, _, zipD_get xs ys i e e2, y, Rep.tup (.inr rfl) upd_same ?_⟩
    exact .cons ((rv.mono hf kp).ext y w) (.cons ((ru.mono hf kp).ext y w) .nil)
end
/-- the reading of a walk: from the items' values on -/
def iW (Θ : Th) (ik : Ik) (t : TA) : TI := fun σ H R => t σ H fun vs H1 => ∃ F b H0 rs ds, Wd Θ F b H1 ∧ RepRs Θ H0 F H1 vs rs ∧ WalkIs ik rs ds ∧ ∀ J G, WD Θ J ds F b H1 G (rs.all isVal) → R J H1
section
variable {X : Cx} {Y : Wo} {Θ : Th} {k : Nat} {N : List Str} {sc : Scope} {W : WX} {e : En}
theorem piI {tg iter : Expr} {t t' : TI} (h : PI X tg iter t) (i : ∀ σ H R, t' σ H R → t σ H R) : PI X tg iter t' := ⟨fun pins s σ H R Iv q => h.run pins s σ H R Iv (i σ H R q)⟩
theorem w_seq {tg a : Expr} {x : E} (G : XG X Y Θ k N sc W) (h : PE X a (tV Θ e W (ev x))) : PI X tg a (iW Θ .seq (tVs Θ e W (evs [x]))) :=
  piI (pi_seqW h) fun σ H R q => by
    obtain ⟨F, b, ρ, P, E, ok, m, p1, p2⟩ := q
    refine ⟨F, b, ρ, _, E, ok, m, ⟨fun r b1 m1 v F1 H1 x1 r1 => ?_, p2⟩⟩
    obtain ⟨F2, b2, H2, rs, ds, w2, hr, wi, k⟩ := p1 _ _ m1 [v] F1 H1 x1 (.cons r1 .nil (fun _ _ _ _ j d2 q _ => by simp at q))
    cases wi with
    | seq hx =>
      cases hr with
      | cons hr _ =>
        obtain ⟨k1, a1, vs, rfl, h1, h2, h3, h4⟩ := src_ok hr hx w2
        rw [G.hK]
        exact ⟨k1, a1, vs, rfl, h1, k _ _ (wd_seq h2 h1 h3 fun z => h4 (by simpa using z))⟩
theorem w_rng1 {tg a : Expr} {x : E} {p pos : Pos} (G : XG X Y Θ k N sc W) (hg : glB sc "range" = true) (hs : notStar a = true) (h : PA X [a] (tVs Θ e W (evs [x]))) : PI X tg (.Call (.Name "range" p) [a] [] pos) (iW Θ .rng (tVs Θ e W (evs [x]))) :=
  piI (pi_range1 (gl_of (by rw [G.hs]; exact hg)) (free_mg G (by decide)) h (starEach_ns hs)) fun σ H R q => by
    obtain ⟨F, b, ρ, P, E, ok, m, p1, p2⟩ := q
    refine ⟨F, b, ρ, _, E, ok, m, fun rs b1 m1 vs F1 H1 x1 r1 => ?_, p2⟩
    obtain ⟨F2, b2, H2, rs, ds, w2, hr, wi, k⟩ := p1 _ _ m1 vs F1 H1 x1 r1
    cases wi with
    | rng1 hx l1 l2 =>
      cases hr with
      | cons hr hn =>
        cases hn
        have s1 := hr.sees
        rw [hx] at s1
        exact ⟨_, by rw [s1], l1, l2, k _ _ wd_rng⟩
theorem w_rng2 {tg a c : Expr} {xs : List E} {p pos : Pos} (G : XG X Y Θ k N sc W) (hg : glB sc "range" = true) (hs : notStar a = true) (hs2 : notStar c = true) (h : PA X [a, c] (tVs Θ e W (evs xs))) : PI X tg (.Call (.Name "range" p) [a, c] [] pos) (iW Θ .rng2 (tVs Θ e W (evs xs))) :=
  piI (pi_range2 (gl_of (by rw [G.hs]; exact hg)) (free_mg G (by decide)) h (by rw [starEach_ns hs, starEach_ns hs2]; rfl) (by rw [starEach_ns hs2]; rfl)) fun σ H R q => by
    obtain ⟨F, b, ρ, P, E, ok, m, p1, p2⟩ := q
    refine ⟨F, b, ρ, _, E, ok, m, fun rs b1 m1 vs F1 H1 x1 r1 => ?_, p2⟩
    obtain ⟨F2, b2, H2, rs, ds, w2, hr, wi, k⟩ := p1 _ _ m1 vs F1 H1 x1 r1
    cases wi with
    | rng2 hx hy l1 l2 l3 l4 =>
      cases hr with
      | cons hr hn =>
        cases hn with
        | cons hr2 hn =>
          cases hn
          have s1 := hr.sees
          have s2 := hr2.sees
          rw [hx] at s1
          rw [hy] at s2
          exact ⟨_, _, by rw [s1, s2], ⟨l1, l2, l3, l4⟩, k _ _ wd_rng⟩
theorem w_enum {elts : List Expr} {kk : Nat} {tpos p pos : Pos} {a : Expr} {xs : List E} (G : XG X Y Θ k N sc W) (hg : glB sc "enumerate" = true) (hs : notStar a = true) (h : PA X [a] (tVs Θ e W (evs xs))) : PI X (.Tuple elts kk tpos) (.Call (.Name "enumerate" p) [a] [] pos) (iW Θ .enum (tVs Θ e W (evs xs))) :=
  piI (pi_enumW (gl_of (by rw [G.hs]; exact hg)) (free_mg G (by decide)) h hs) fun σ H R q => by
    obtain ⟨F, b, ρ, P, E, ok, m, p1, p2⟩ := q
    refine ⟨F, b, ρ, _, E, ok, m, fun rs b1 m1 vs F1 H1 x1 r1 => ?_, p2⟩
    obtain ⟨F2, b2, H2, rs, ds, w2, hr, wi, k⟩ := p1 _ _ m1 vs F1 H1 x1 r1
    cases wi with
    | enum hx =>
      cases hr with
      | cons hr hn =>
        cases hn
        obtain ⟨k1, a1, vs, rfl, h1, h2, h3, h4⟩ := src_ok hr hx w2
        rw [G.hK]
        exact ⟨k1, a1, vs, rfl, h1, k _ _ (wd_enum h2 h1 h3 fun z => h4 (by simpa using z))⟩
theorem w_zip {elts : List Expr} {kk : Nat} {tpos p pos : Pos} {a c : Expr} {xs : List E} (G : XG X Y Θ k N sc W) (hg : glB sc "zip" = true) (hs : notStar a = true) (hs2 : notStar c = true) (h : PA X [a, c] (tVs Θ e W (evs xs))) : PI X (.Tuple elts kk tpos) (.Call (.Name "zip" p) [a, c] [] pos) (iW Θ .zip (tVs Θ e W (evs xs))) :=
  piI (pi_zipW (gl_of (by rw [G.hs]; exact hg)) (free_mg G (by decide)) h hs hs2) fun σ H R q => by
    obtain ⟨F, b, ρ, P, E, ok, m, p1, p2⟩ := q
    refine ⟨F, b, ρ, _, E, ok, m, fun rs b1 m1 vs F1 H1 x1 r1 => ?_, p2⟩
    obtain ⟨F2, b2, H2, rs, ds, w2, hr, wi, k⟩ := p1 _ _ m1 vs F1 H1 x1 r1
    cases wi with
    | zip hx hy =>
      cases hr with
      | cons hr hn =>
        cases hn with
        | cons hr2 hn =>
          cases hn
          obtain ⟨k1, a1, vs, rfl, h1, h2, h3, h4⟩ := src_ok hr hx w2
          obtain ⟨k2, a2, us, rfl, g1, g2, g3, g4⟩ := src_ok hr2 hy w2
          rw [G.hK]
          exact ⟨k1, k2, a1, a2, vs, us, rfl, h1, g1, k _ _ (wd_zip h2 g2 h1 h3 (fun z => h4 (by simp at z; exact z.1)) g1 g3 fun z => g4 (by simp at z; exact z.2))⟩
end
end VL
end
-- V9
section
set_option Elab.async false
set_option linter.all false
set_option maxRecDepth 100000
set_option maxHeartbeats 4000000
/-! Targets, comprehensions. -/
namespace VL
open PySem PySem.Spec PyProof.Rows
open L2 hiding St
section
variable {Θ : Th} {F F' : Addr → Prop} {b b' : Nat} {H H' : Hp}
/-- a list that is not the earlier state's is written -/
theorem Ext.over (x : Ext Θ F b H F' b' H') (w0 : Wd Θ F b H) {p : Addr} {o o2 : HO} (hp : H p = none) (np : ¬ F' p) (ho : H' p = some o) (no : NoTab o) (nc : ∀ c q, o ≠ LamX.CodeO c q) : Ext Θ F b H F' b' (upd H' p o2) where
  f := x.f
  h := fun a u h1 h2 h3 => by rw [upd_ne (ne_of_none h1 hp)]; exact x.h a u h1 h2 h3
  n := fun a h => by
    rcases x.n a h with q | ⟨q, u, h2, h3⟩
    · exact .inl q
    · exact .inr ⟨q, u, by rw [upd_ne (fun z => np (by rw [← z]; exact h))]; exact h2, h3⟩
  p := fun a ha h => by
    obtain ⟨_, _, _, _, _, q1, q2, _⟩ := id h
    obtain ⟨ns, a1, a2, a3, a4, e1, e2, r⟩ := x.p a ha h
    exact ⟨ns, a1, a2, a3, a4, by rw [upd_ne (ne_of_none q1 hp)]; exact e1, by rw [upd_ne (ne_of_none q2 hp)]; exact e2, r⟩
  t := fun h => tabs_upd (x.t h) ho no nc
  x := fun a u h => by rw [upd_ne (ne_of_none h hp)]; exact x.x a u h
  tt := fun a u h => by rw [upd_ne (ne_of_none h hp)]; exact x.tt a u h
  b := x.b
theorem lst_noCode {xs : List V} : ∀ c q, HO.lst xs ≠ LamX.CodeO c q := fun c q z => by cases z
end

/-! ### targets -/
/-- the slots of a target -/
def Tg.ix : Tg → List Nat
  | .var i => [i]
  | .tup is => is
def gNames : List Nat → TGs
  | [] => gNil
  | i :: is => gCons (gName i) (gNames is)
def gT (K : PySem.W.Frag) : Tg → TG
  | .var i => gName i
  | .tup is => gTup K is.length (gNames is)
/-- a name that may be stored -/
def stoB (sc fsc : Scope) (x : Str) : Bool := match sc.names.lookup x with
  | some .local => true
  | some .cell => (match fsc.names.lookup x with
    | some .cell => true
    | _ => false)
  | _ => false
def isNm (N : List Str) (sc fsc : Scope) (i : Nat) : Expr → Bool
  | .Name x _ => decide (N[i]? = some x) && stoB sc fsc x
  | _ => false
def allNm (N : List Str) (sc fsc : Scope) : List Nat → List Expr → Bool
  | [], [] => true
  | i :: is, a :: as => isNm N sc fsc i a && allNm N sc fsc is as
  | _, _ => false
def tgB (N : List Str) (sc fsc : Scope) : Tg → Expr → Bool
  | .var i, a => isNm N sc fsc i a
  | .tup is, .Tuple as _ _ => allNm N sc fsc is as
  | _, _ => false
section
variable {X : Cx} {Y : Wo} {Θ : Th} {k : Nat} {N : List Str} {sc fsc : Scope} {W : WX} {e : En}
theorem pg_nm {i : Nat} {a : Expr} (G : XG X Y Θ k N sc W) (hf : ∀ x, fsc.names.lookup x = some .cell → X.fn x = true) (h : isNm N sc fsc i a = true) : PG X a (gName i) ∧ (∀ es, (assignEach (a :: es) X.env).map (·.2) = assign a X.env :: (assignEach es X.env).map (·.2)) ∧ (∀ es, assignEach (a :: es) X.env = (false, assign a X.env) :: assignEach es X.env) := by
  cases a <;> try cases h
  rename_i x p
  unfold isNm at h
  rw [Bool.and_eq_true, decide_eq_true_eq] at h
  obtain ⟨h1, h2⟩ := h
  refine ⟨?_, fun es => rfl, fun es => rfl⟩
  have hi : X.N[i]? = some x := by rw [G.hN]; exact h1
  unfold stoB at h2
  split at h2
  · rename_i q
    have q' : X.env.scope.names.lookup x = some .local := by rw [G.hs]; exact q
    exact pg_name (by rw [G.hN]; exact G.nd) hi (.inl q') (.inr q')
  · rename_i q
    have q' : X.env.scope.names.lookup x = some .cell := by rw [G.hs]; exact q
    split at h2
    · rename_i q2
      exact pg_name (by rw [G.hN]; exact G.nd) hi (.inr q') (.inl (hf x q2))
    · cases h2
  · cases h2
theorem pgs_nms {is : List Nat} {as : List Expr} (G : XG X Y Θ k N sc W) (hf : ∀ x, fsc.names.lookup x = some .cell → X.fn x = true) (h : allNm N sc fsc is as = true) : PGs X as (gNames is) ∧ (assignEach as X.env).length = is.length ∧ (assignEach as X.env).findIdx? (·.1) = none := by
  induction is generalizing as with
  | nil =>
    cases as with
    | nil => exact ⟨pgs_nil, rfl, rfl⟩
    | cons => cases h
  | cons i is ih =>
    cases as with
    | nil => cases h
    | cons a as =>
      unfold allNm at h
      rw [Bool.and_eq_true] at h
      obtain ⟨h1, h2, h3⟩ := ih h.2
      obtain ⟨g1, g2, g3⟩ := pg_nm G hf h.1
      refine ⟨pgs_cons g1 h1 (g2 as), by rw [g3, List.length_cons, h2, List.length_cons], ?_⟩
      rw [g3, List.findIdx?_cons]
      simp [h3]
theorem pg_tg {t : Tg} {a : Expr} (G : XG X Y Θ k N sc W) (hf : ∀ x, fsc.names.lookup x = some .cell → X.fn x = true) (h : tgB N sc fsc t a = true) : PG X a (gT X.K t) := by
  cases t with
  | var i => exact (pg_nm G hf h).1
  | tup is =>
    cases a <;> try cases h
    obtain ⟨h1, h2, h3⟩ := pgs_nms G hf h
    exact pg_tup G.calm h1 h2 h3
end
section
variable {Θ : Th} {F0 F : Addr → Prop} {b0 b : Nat} {H0 H : Hp} {σ : St} {ρ : Env'}
theorem opt_ok {α : Type} {o : Option α} {P : α → Nat → Prop} {E : XD → Nat → Prop} {b : Nat} (m : optM o P E b) : ∃ a, o = some a ∧ P a b := by
  cases o with
  | none => exact m.elim
  | some a => exact ⟨a, rfl, m⟩
theorem setAll_cons {ρ : Env'} {i : Nat} {is : List Nat} {d : D} {ds : List D} : setAll ρ (i :: is) (d :: ds) = setAll (ρ.set i (some (.val d))) is ds := rfl
theorem gNames_ok {is : List Nat} {vs : List V} {ds : List D} {ρ' : Env'} {Q : St → Hp → Prop} (ok : EnvOk Θ F0 b0 H0 F b H σ ρ) (rl : RepL Θ F H vs ds) (hs : setAll ρ is ds = some ρ')
    (q : ∀ σ', EnvOk Θ F0 b0 H0 F b H σ' ρ' → (∀ ws, (∀ i ∈ is, i ∈ ws) → wipe σ' ws = wipe σ ws) → Q σ' H) (hw : ∀ {σ : St} {i : Nat} {v : Option V} {ws : List Nat}, i ∈ ws → wipe (σ.set i v) ws = wipe σ ws) : gNames is vs σ H Q := by
  induction is generalizing vs ds ρ σ with
  | nil =>
    cases ds with
    | nil =>
      cases rl
      cases hs
      exact ⟨rfl, q σ ok fun ws _ => rfl⟩
    | cons => cases hs
  | cons i is ih =>
    cases ds with
    | nil => cases hs
    | cons d ds =>
      cases rl with
      | @cons v _ vs _ r rl =>
        refine ⟨v, vs, rfl, ?_⟩
        have ok1 := ok.set (v := v) (r := .val d) (s := .val d) .refl r rfl i
        exact ih ok1 rl hs fun σ' ok' k => q σ' ok' fun ws hws => by
          rw [k ws fun j hj => hws j (List.mem_cons_of_mem _ hj)]
          exact hw (hws i List.mem_cons_self)
theorem wipe_get (σ : St) (ws : List Nat) (j : Nat) : (wipe σ ws)[j]? = if j ∈ ws then (σ[j]?).map (fun _ => none) else σ[j]? := by
  induction ws with
  | nil => simp [wipe]
  | cons w ws ih =>
    show ((wipe σ ws).set w none)[j]? = _
    by_cases hj : w = j
    · subst hj
      simp only [List.mem_cons, true_or, if_true]
      rcases Nat.lt_or_ge w σ.length with q | q
      · rw [List.getElem?_set_self (by rw [wipe_length]; exact q), List.getElem?_eq_getElem q]; rfl
      · rw [List.getElem?_eq_none (by rw [List.length_set, wipe_length]; exact q), List.getElem?_eq_none q]; rfl
    · rw [List.getElem?_set_ne hj, ih]
      have : (j ∈ w :: ws) = (j ∈ ws) := by simp [List.mem_cons, Ne.symm hj]
      simp only [this]
theorem wipe_set' {σ : St} {i : Nat} {v : Option V} {ws : List Nat} (h : i ∈ ws) : wipe (σ.set i v) ws = wipe σ ws := by
  apply List.ext_getElem?
  intro j
  rw [wipe_get, wipe_get]
  by_cases hj : j ∈ ws
  · simp only [hj, if_true]
    by_cases e : i = j
    · subst e
      rcases Nat.lt_or_ge i σ.length with q | q
      · rw [List.getElem?_set_self q, List.getElem?_eq_getElem q]; rfl
      · rw [List.getElem?_eq_none (by rw [List.length_set]; exact q), List.getElem?_eq_none q]
    · rw [List.getElem?_set_ne e]
  · have e : i ≠ j := fun z => hj (z ▸ h)
    rw [List.getElem?_set_ne e]
theorem wipe_wipe (σ : St) (ws : List Nat) : wipe (wipe σ ws) ws = wipe σ ws := by
  apply List.ext_getElem?
  intro j
  rw [wipe_get, wipe_get]
  by_cases hj : j ∈ ws
  · simp only [hj, if_true]
    cases σ[j]? <;> rfl
  · simp only [hj, if_false]
/-- a target takes an item -/
theorem gT_ok {t : Tg} {v : V} {d : D} {P : Env' → Nat → Prop} {E : XD → Nat → Prop} {Q : St → Hp → Prop} (ok : EnvOk Θ F0 b0 H0 F b H σ ρ) (r : Rep Θ F H v d) (m : tgD t d ρ P E b)
    (q : ∀ σ' ρ', P ρ' b → EnvOk Θ F0 b0 H0 F b H σ' ρ' → (∀ ws, (∀ i ∈ t.ix, i ∈ ws) → wipe σ' ws = wipe σ ws) → Q σ' H) : gT Θ.K t v σ H Q := by
  cases t with
  | var i => exact q _ _ m (ok.set (r := .val d) (s := .val d) .refl r rfl i) fun ws h => wipe_set' (h i (by simp [Tg.ix]))
  | tup is =>
    unfold tgD at m
    cases d <;> try exact m.elim
    rename_i ds
    obtain ⟨ρ', e, m⟩ := opt_ok m
    obtain ⟨a, vs, rfl, h1, h2⟩ := r.sees
    have hlen : ∀ {is : List Nat} {ds : List D} {ρ : Env'}, setAll ρ is ds = some ρ' → ds.length = is.length := fun {is} => by
      induction is with
      | nil =>
        intro ds ρ e
        cases ds with
        | nil => rfl
        | cons => cases e
      | cons i is ih =>
        intro ds ρ e
        cases ds with
        | nil => cases e
        | cons d ds => rw [List.length_cons, List.length_cons, ih (ds := ds) e]
    exact ⟨a, vs, rfl, h1, by rw [h2.length, hlen e], gNames_ok ok h2 e (fun σ' ok' k => q σ' ρ' m ok' k) wipe_set'⟩
end

/-! ### comprehensions -/
def WF : WX := fun _ _ _ _ => False
theorem takes_WF {X : Cx} : Takes X WF := fun u s' h => by
  obtain ⟨a, B, sI, pins, σ, H, cls, d, e, I, nb, up, sky, na, os, ag, w⟩ := h
  exact w.elim
section
variable {X : Cx} {Y : Wo} {Θ : Th} {k : Nat} {N : List Str} {sc : Scope} {W : WX} {e : En}
theorem XG.blk (G : XG X Y Θ k N sc W) (s : Shared) (H : Hp) (scope : Scope) (C : Addr) (cl : List (Str × Addr)) (fp : List Addr) : XG (X.blk s H scope (compEnvC scope cl C X.env) fp) Y Θ k N (relS scope sc) WF where
  hP := G.hP
  hw := G.hw
  hKY := G.hKY
  hmg := G.hmg
  hbase := G.hbase
  hK := G.hK
  hN := G.hN
  nd := G.nd
  hs := by
    show relS scope X.env.scope = _
    rw [G.hs]
  calm := G.calm
  room := G.room
  grd := G.grd
  tk := takes_WF
  glb := G.glb
  free := G.free
  gcd := G.gcd
  ins := G.ins
  isi := G.isi
/-- what an item's turn computes -/
def stepF (elt : E) (tg : Tg) (ifs : Option E) (own : List Nat) (ρ : Env') (d : D) : M (Option D) := quiet (bnd (tgD tg d (wipeE ρ own)) fun ρ1 => bnd (evt ifs ρ1) fun t =>
  iteM t (bnd (ev elt ρ1) fun r => bnd r.kept fun x => ret (some x)) (ret none))
def compF (elt : E) (tg : Tg) (ik : Ik) (fs : Env' → M (List R)) (ifs : Option E) (own : List Nat) : Env' → M R := fun ρ => bnd (fs ρ) fun rs => bnd (walkD ik rs) fun ds => need (ds.length ≤ sizeLine) (bnd (compD (stepF elt tg ifs own ρ) ds) fun xs => ret (.frs (.lst xs)))
theorem kept_one {r : R} {P : D → Nat → Prop} {E : XD → Nat → Prop} {b : Nat} (m : r.kept P E b) : P r.d b ∧ ∀ d, r ≠ .own d := by
  cases r with
  | val d => exact ⟨m, fun _ z => by cases z⟩
  | frs d => exact ⟨m, fun _ z => by cases z⟩
  | own d => exact m.elim
theorem comp_tV {elt : E} {tg : Tg} {ik : Ik} {fs : Env' → M (List R)} {ifs : Option E} {own : List Nat} {σ : St} {H : Hp} {Q : VK} (ht : ∀ i ∈ tg.ix, i ∈ own) (h : tV Θ e W (compF elt tg ik fs ifs own) σ H Q) :
    tLc (iW Θ ik (tVs Θ e W fs)) (gT Θ.K tg) (tVt Θ e WF (evt ifs)) (tV Θ e WF (ev elt)) own σ H Q := by
  obtain ⟨F, b, ρ, P, E, ok, m, post⟩ := h
  refine ⟨F, b, ρ, _, E, ok, m, fun rs b1 m1 vs F1 H1 x1 r1 => ?_, post.ex⟩
  have ok1 := ok.ext x1
  obtain ⟨ds, wi, hsz, m2⟩ := walk_is m1
  refine ⟨F1, b1, H, rs, ds, ok1.wd, r1, wi, fun J Gd wd D hD => ?_⟩
  have w1 := ok1.wd
  let Pv : Nat → Hp → Prop := fun i H2 => ∃ F2 b2 acc dacc, Ext Θ F1 b1 H1 F2 b2 H2 ∧ H2 D = some (.lst acc) ∧ ¬ F2 D ∧ RepL Θ F2 H2 acc dacc ∧ acc.length ≤ i ∧ compD (stepF elt tg ifs own ρ) (ds.drop i) (fun xs b => P (.frs (.lst (dacc ++ xs))) b) E b2
  have keyG : ∀ i H2, Pv i H2 → Gd H2 := fun i H2 ⟨F2, b2, _, _, x, _⟩ => wd.ext F2 b2 H2 x
  refine ⟨fun i m H2 => m = ds.length - i ∧ i ≤ ds.length ∧ Pv i H2, ⟨ds.length, by omega, Nat.zero_le _, F1, b1, [], [], Ext.new' hD, upd_same, w1.npa hD |> fun _ => (Ext.refl (Θ := Θ) (F := F1) (b := b1) (H := H1)).nf hD w1, .nil, Nat.le_refl _, m2⟩, ?_⟩
  rintro i mm H2 ⟨rfl, hi, pv⟩
  have hG := keyG i H2 pv
  obtain ⟨F2, b2, acc, dacc, x2, eD, nD, rl, hacc, mm⟩ := pv
  have w2 := w1.ext x2
  by_cases hlt : i < ds.length
  · refine .inr ⟨wd.go i H2 hlt hG, Pv (i + 1), fun H' p' => ⟨ds.length - (i + 1), by omega, rfl, hlt, p'⟩, fun x H3 y => ?_⟩
    obtain ⟨F3, d, ed, x3, rd⟩ := wd.yld i F2 b2 H2 x H3 hlt hG x2.f (x2.keep w1) w2 y
    have edrop : ds.drop i = d :: ds.drop (i + 1) := by
      rw [List.drop_eq_getElem_cons hlt]
      rw [List.getElem?_eq_getElem hlt] at ed
      rw [Option.some.inj ed]
    rw [edrop] at mm
    have x23 := x2.trans x3 w1
    have w3 := w2.ext x3
    have okw := (ok1.wipe own).ext x23
    have npD : Θ.pa ≠ some D := w1.npa hD
    refine gT_ok okw rd mm fun σ' ρ' m4 ok4 hwp => ⟨by rw [hwp own ht, wipe_wipe], ?_⟩
    refine ⟨F3, b2, ρ', _, _, ok4, m4, fun t b4 m5 F4 H4 x4 => ?_, fun x b' hx => hx.elim⟩
    have x24 := x23.trans x4 w1
    have w4 := w3.ext x4
    cases t with
    | false =>
      simp only [Bool.false_eq_true, if_false]
      have x34 := x3.trans x4 w2
      exact ⟨F4, b4, acc, dacc, x24, x34.h D _ eD npD noTab_lst, nf_ext x34 nD eD lst_noCode, rl.ext x34 w2, by omega, m5⟩
    | true =>
      simp only [if_true]
      refine ⟨F4, b4, ρ', _, _, ok4.ext x4, m5, ⟨fun r b5 m6 v F5 H5 x5 r5 => ?_, fun x b' hx => hx.elim⟩⟩
      obtain ⟨m7, nown⟩ := kept_one m6
      obtain ⟨F6, hf6, x6, r6⟩ := r5.keep x5 nown
      have x46 := (x3.trans x4 w2).trans x6 w2
      have x26 := x24.trans x6 w1
      have eD6 := x46.h D _ eD npD noTab_lst
      have nD6 := nf_ext x46 nD eD lst_noCode
      refine ⟨acc, eD6, by omega, F6, b5, acc ++ [v], dacc ++ [r.d], x26.over w1 hD nD6 eD6 noTab_lst lst_noCode, upd_same, nD6, ?_, by rw [List.length_append]; simp; omega, ?_⟩
      · have kp : ∀ a o, F6 a → H5 a = some o → upd H5 D (.lst (acc ++ [v])) a = some o := fun a o hf e => by rw [upd_ne (fun z => nD6 (by rw [← z]; exact hf))]; exact e
        exact ((rl.ext x46 w2).append (.cons r6 .nil)).mono (fun _ z => z) kp
      · have m8 : compD (stepF elt tg ifs own ρ) (ds.drop (i + 1)) (fun xs b => P (.frs (.lst (dacc ++ (r.d :: xs)))) b) E b5 := m7
        simpa [List.append_assoc] using m8
  · have e1 : i = ds.length := by omega
    subst e1
    refine .inl ⟨wd.stop H2 hG, ?_⟩
    rw [List.drop_length] at mm
    have mm : P (.frs (.lst (dacc ++ []))) b2 := mm
    rw [List.append_nil] at mm
    exact post.ok _ _ mm _ _ _ (x1.trans x2 ok.wd) ⟨D, rfl, nD, w1.npa hD, x1.back hD, acc, eD, rl⟩
end
end VL
end
-- V10
section
set_option Elab.async false
set_option linter.all false
set_option maxRecDepth 100000
set_option maxHeartbeats 4000000
/-! Terms and the text: the check, the theorem. -/
namespace VL
open PySem PySem.Spec PyProof.Rows
open L2 hiding St

/-! ### displays of dicts -/
section
variable {X : Cx} {Y : Wo} {Θ : Th} {k : Nat} {N : List Str} {sc : Scope} {W : WX} {e : En}
def trsOf (Θ : Th) (e : En) (W : WX) : List Str → List E → List (TE × TE)
  | x :: xs, y :: ys => (tC (.str x), tV Θ e W (ev y)) :: trsOf Θ e W xs ys
  | _, _ => []
def kPairs : List Str → List V → List (Key × V)
  | x :: xs, v :: vs => (.inr x, v) :: kPairs xs vs
  | _, _ => []
theorem pairs_ok {ks : List Str} {es : List E} {σ : St} {F : Addr → Prop} {b : Nat} {H : Hp} {ρ : Env'} {P : List R → Nat → Prop} {E : XD → Nat → Prop} {K : List (V × V) → Hp → Prop} (hl : ks.length = es.length) (ok : EOk Θ e F b H σ ρ) (m : evs es ρ P E b)
    (p1 : ∀ rs b', P rs b' → ∀ vs F' H', Ext Θ F b H F' b' H' → RepRs Θ H F' H' vs rs → K ((kPairs ks vs).map fun kv => (kV kv.1, kv.2)) H') (p2 : ∀ x b', E x b' → ∀ cls d F' H', Ext Θ F b H F' b' H' → RepX Θ F' H' cls d x → W cls d σ H') :
    tPairs (trsOf Θ e W ks es) σ H K := by
  induction es generalizing ks F b H P K with
  | nil =>
    cases ks with
    | cons => cases hl
    | nil => exact p1 _ _ m [] _ _ .refl .nil
  | cons y ys ih =>
    cases ks with
    | nil => cases hl
    | cons x xs =>
      refine ⟨F, b, ρ, _, E, ok, m, ⟨fun r b1 m1 v F1 H1 x1 r1 => ?_, p2⟩⟩
      have ok1 := ok.ext x1
      refine ih (by simpa using hl) ok1 m1 (fun rs b2 m2 vs F2 H2 x2 r2 => ?_) (ex_ext ok.wd x1 p2)
      exact p1 _ _ m2 (v :: vs) _ _ (x1.trans x2 ok.wd) (.cons (r1.ext x2 ok1.wd) (r2.base x1) (ap_of r1 r2))
theorem merge_new {more acc : List (Key × V)} (h : (more.map (·.1)).Nodup) (hd : ∀ k ∈ more.map (·.1), valV acc k = none) : mergeK acc more = acc ++ more := by
  induction more generalizing acc with
  | nil => simp [mergeK]
  | cons p more ih =>
    rw [List.map_cons, List.nodup_cons] at h
    have e : mergeK acc (p :: more) = mergeK (putK acc p.1 p.2) more := rfl
    rw [e, putK_new p.2 (hd p.1 (by simp)), ih h.2 fun k hk => ?_, List.append_assoc]; · rfl
    have h1 := hd k (by rw [List.map_cons]; exact List.mem_cons_of_mem _ hk)
    have h2 := valV_put acc p.1 k p.2
    rw [putK_new p.2 (hd p.1 (by simp))] at h2
    rw [h2, if_neg (fun z => h.1 (by rw [← z]; exact hk)), h1]
theorem kPairs_keys {ks : List Str} {vs : List V} (hl : ks.length = vs.length) : (kPairs ks vs).map (·.1) = ks.map Sum.inr := by
  induction ks generalizing vs with
  | nil => rfl
  | cons x xs ih =>
    cases vs with
    | nil => cases hl
    | cons v vs => rw [kPairs, List.map_cons, List.map_cons, ih (by simpa using hl)]
theorem kPairs_rep {ks : List Str} {vs : List V} {ds : List D} {F : Addr → Prop} {H : Hp} (h : RepL Θ F H vs ds) : RepK Θ F H (kPairs ks vs) (ks.zip ds) := by
  induction vs generalizing ks ds with
  | nil => cases h; cases ks <;> exact .nil
  | cons v vs ih =>
    cases h with
    | cons a r =>
      cases ks with
      | nil => exact .nil
      | cons x xs => exact .cons a (ih r)
/-- the keys of a display are these texts -/
def keysB : List Str → List (Option Expr) → Bool
  | [], [] => true
  | x :: xs, some (.Constant (.str y) _ _) :: es => decide (x = y) && keysB xs es
  | _, _ => false
theorem e_dct {ks : List Str} {es : List E} {keys : List (Option Expr)} {vals : List Expr} {pos : Pos} (hp : PPs X pos keys vals (trsOf Θ e W ks es)) (hall : keys.all (·.isSome) = true) (hk : keys.length = vals.length) (h0 : keys ≠ []) (h15 : keys.length ≤ 15) (hl : ks.length = es.length) (hkl : ks.length = keys.length) (hnd : ks.Nodup) :
    PE X (.Dict keys vals pos) (tV Θ e W (ev (.dct ks es))) :=
  peI (pe_disp hp hall hk h0 h15) fun σ H Q q => by
    obtain ⟨F, b, ρ, P, E, ok, m, post⟩ := q
    intro p np
    have y : Ext Θ F b H F b (upd H p (.dK [])) := Ext.new' np
    refine pairs_ok hl (ok.ext y) m (fun rs b1 m1 vs F1 H1 x1 r1 => ?_) (ex_ext ok.wd y post.ex)
    obtain ⟨ds, m2, kk⟩ := kept_ok r1 m1
    have rl := kk vs fun _ h => h
    have x2 := fixed_ext (vs := vs) x1
    have w1 := ok.wd.ext y
    have npa : Θ.pa ≠ some p := ok.wd.npa np
    have e1 : H1 p = some (.dK []) := x2.h p _ upd_same npa noTab_dK
    have nF : ¬ F p := (Ext.refl (Θ := Θ) (F := F) (b := b) (H := H)).nf np ok.wd
    have nf1 := nf_ext x2 nF upd_same (fun c q z => by cases z)
    have xx := y.trans x2 ok.wd
    have x3 := xx.over (o2 := .dK (mergeK [] (kPairs ks vs))) ok.wd np nf1 e1 noTab_dK (fun c q z => by cases z)
    have hv : ks.length = vs.length := by rw [m2.1, rl.length]
    · have em : mergeK [] (kPairs ks vs) = kPairs ks vs := by
        rw [merge_new (by rw [kPairs_keys hv]; exact List.Pairwise.map _ (fun a b z q => z (Sum.inr.inj q)) hnd) (fun _ _ => rfl)]; rfl
      refine ⟨e1, kPairs ks vs, rfl, ?_, post.ok _ _ m2.2 _ _ _ x3 ⟨p, rfl, nf1, npa, np, kPairs ks vs, by rw [em]; exact upd_same, ?_⟩⟩
      · have := congrArg List.length (kPairs_keys hv)
        rw [List.length_map, List.length_map] at this
        omega
      · have kp : ∀ a o, fixed F1 (upd H p (.dK [])) H1 vs a → H1 a = some o → upd H1 p (.dK (mergeK [] (kPairs ks vs))) a = some o := fun a o hf e => by rw [upd_ne (show a ≠ p from fun z => by subst z; exact nf1 hf)]; exact e
        exact (kPairs_rep rl).mono (fun _ z => z) kp
end

/-! ### the text, looked at -/
inductive VEx where
  | con (c : Const) | nm (x : Str) | bin (op : Operator) (a b : Expr) | neg (a : Expr) | not (a : Expr) | and (as : List Expr) | or (as : List Expr)
  | ite (t a b : Expr) | cmp (op : CmpOp) (a b : Expr) | chain (o p : CmpOp) (a b c : Expr) | tup (as : List Expr) | lst (as : List Expr)
  | dct (ks : List (Option Expr)) (as : List Expr) | sub (a i : Expr) | slc (a : Expr) (lo hi : Option Expr) | att (a : Expr) (f : Str) (ln : Nat)
  | call (x : Str) (as : List Expr) | meth (a : Expr) (f : Str) (same : Bool) (as : List Expr)
  | comp (elt tg iter : Expr) (ifs : List Expr) (scope : Scope) | lam (e : Expr) | other
def lookE : Expr → VEx
  | .Constant c _ _ => .con c
  | .Name x _ => .nm x
  | .BinOp a op b _ => .bin op a b
  | .UnaryOp .USub a _ => .neg a
  | .UnaryOp .Not a _ => .not a
  | .BoolOp .And as _ => .and as
  | .BoolOp .Or as _ => .or as
  | .IfExp t a b _ => .ite t a b
  | .Compare a [op] [b] _ => .cmp op a b
  | .Compare a [o, p] [b, c] _ => .chain o p a b c
  | .Tuple as _ _ => .tup as
  | .List as _ => .lst as
  | .Dict ks as _ => .dct ks as
  | .Subscript a (.Slice lo hi none _) _ => .slc a lo hi
  | .Subscript a i _ => .sub a i
  | .Attribute a f p => .att a f p.endLine
  | .Call (.Name x _) as [] _ => .call x as
  | .Call (.Attribute a f ap) as [] pos => .meth a f (ap.endLine == pos.line) as
  | .ListComp elt [⟨tg, iter, ifs, 0⟩] scope _ => .comp elt tg iter ifs scope
  | .Lambda a b c d => .lam (.Lambda a b c d)
  | _ => .other
end VL
end
-- V24
section
set_option Elab.async false
set_option linter.all false
set_option maxRecDepth 100000
set_option maxHeartbeats 4000000
/-! Lambdas: cells locked and unlocked, the call. -/
namespace VL
open PySem PySem.Spec PyProof.Rows
open L2 hiding St
/-- the cells cs no longer tracked -/
def unlk (cs : Addr → Prop) [DecidablePred cs] (H : Hp) : Hp := fun a => if cs a then none else H a
/-- tracked again as in H0 -/
def relk (cs : Addr → Prop) [DecidablePred cs] (H0 H : Hp) : Hp := fun a => if cs a then H0 a else H a
def Lkd (cs : Addr → Prop) (H : Hp) : Prop := ∀ c, cs c → ∃ oc, H c = some (.frz oc (.ext fun h => ∃ o, h.get? c = some o))
section
variable {cs : Addr → Prop} [DecidablePred cs] {H H' : Hp} {P : Program} {w : World} {h h' : Heap} {fs : List Addr}
theorem unlk_in {c : Addr} (e : cs c) : unlk cs H c = none := if_pos e
theorem unlk_out {c : Addr} (e : ¬ cs c) : unlk cs H c = H c := if_neg e
theorem relk_in {c : Addr} (e : cs c) : relk cs H H' c = H c := if_pos e
theorem relk_out {c : Addr} (e : ¬ cs c) : relk cs H H' c = H' c := if_neg e
theorem Lkd.out (lk : Lkd cs H) {a : Addr} {o : HO} (e : H a = some o) (n : ∀ oc φ, o ≠ .frz oc (.ext φ)) : ¬ cs a := fun z => by
  obtain ⟨oc, q⟩ := lk a z
  rw [e] at q
  exact n _ _ (Option.some.inj q)
theorem hok_unlk (hok : HOk P w H h) (lk : Lkd cs H) : HOk P w (unlk cs H) h := fun a o e => by
  by_cases z : cs a
  · rw [unlk_in z] at e; cases e
  · rw [unlk_out z] at e
    exact (hok a o e).stay (fun b v _ q => q) (fun b q => by rw [unlk_out (lk.out q (fun _ _ y => by cases y))]; exact q) fun b xs q => by rw [unlk_out (lk.out q (fun _ _ y => by cases y))]; exact q
theorem hok_relk (hok : HOk P w H h) (hok' : HOk P w H' h') (lk : Lkd cs H) (hn : ∀ c, cs c → H' c = none) (kc : ∀ c o, cs c → h.get? c = some o → h'.get? c = some o) : HOk P w (relk cs H H') h' := fun a o e => by
  by_cases z : cs a
  · rw [relk_in z] at e
    obtain ⟨oc, q⟩ := lk a z
    rw [e] at q; cases q
    obtain ⟨x1, _⟩ := (show ObjOk P w H h a (.frz oc _) from hok a _ e)
    have x2 := kc a _ z x1
    exact ⟨x2, ⟨_, x2⟩, ⟨_, x2⟩, fun h1 h2 ⟨o, ho⟩ k => ⟨o, k o ho⟩⟩
  · rw [relk_out z] at e
    have out : ∀ {b : Addr} {u : HO}, H' b = some u → ¬ cs b := fun {b u} q y => by rw [hn b y] at q; cases q
    exact (hok' a o e).stay (fun b v _ q => q) (fun b q => by rw [relk_out (out q)]; exact q) fun b xs q => by rw [relk_out (out q)]; exact q
theorem unlk_none {b : Addr} (e : H b = none) : unlk cs H b = none := by
  by_cases z : cs b
  · exact unlk_in z
  · rw [unlk_out z]; exact e
theorem un_relk (lk : Lkd cs H) (u : Un fs [] (unlk cs H) H' h h') : Un fs [] H (relk cs H H') h h' where
  keep := fun b o e n hf hx => u.keep b o e (unlk_none n) hf hx
  slot := fun b o e n hf hx => u.slot b o e (unlk_none n) hf hx
  free := fun b o e n hx => by
    have z : ¬ cs b := fun z => by
      obtain ⟨oc, q⟩ := lk b z
      rw [n] at q; cases q
    rw [relk_out z]; exact u.free b o e (unlk_none n) hx
  there := u.there
  tups := fun b xs e => by
    have z := lk.out e (fun _ _ y => by cases y)
    rw [relk_out z]; exact u.tups b xs (by rw [unlk_out z]; exact e)
  frzs := fun b o v e => by
    by_cases z : cs b
    · rw [relk_in z]; exact e
    · rw [relk_out z]; exact u.frzs b o v (by rw [unlk_out z]; exact e)
  tbls := fun b ps e => by
    have z := lk.out e (fun _ _ y => by cases y)
    rw [relk_out z]; exact u.tbls b ps (by rw [unlk_out z]; exact e)
theorem ub_relk {B : Heap} (lk : Lkd cs H) (u : UB fs (unlk cs H) H' h B h') : UB fs H (relk cs H H') h B h' where
  keep := fun b o e n hf => u.keep b o e (unlk_none n) hf
  slot := u.slot
  free := fun b o e n => by
    have z : ¬ cs b := fun z => by
      obtain ⟨oc, q⟩ := lk b z
      rw [n] at q; cases q
    rw [relk_out z]; exact u.free b o e (unlk_none n)
  there := u.there
  tups := fun b xs e => by
    have z := lk.out e (fun _ _ y => by cases y)
    rw [relk_out z]; exact u.tups b xs (by rw [unlk_out z]; exact e)
  frzs := fun b o v e => by
    by_cases z : cs b
    · rw [relk_in z]; exact e
    · rw [relk_out z]; exact u.frzs b o v (by rw [unlk_out z]; exact e)
  tbls := fun b ps e => by
    have z := lk.out e (fun _ _ y => by cases y)
    rw [relk_out z]; exact u.tbls b ps (by rw [unlk_out z]; exact e)
end
/-! ### data, unlocked and locked again -/
section
variable {Θ : Th} {cs : Addr → Prop} [DecidablePred cs] {F F' : Addr → Prop} {b b' : Nat} {H H' : Hp}
/-- in the lambda's frame nothing is known of cells -/
def bare (Θ : Th) : Th := { Θ with cm := fun _ => none }
mutual
theorem Rep.unlk (lk : Lkd cs H) : ∀ {v : V} {d : D}, Rep Θ F H v d → d.noClo = true → Rep (bare Θ) (fun a => F a ∧ ¬ cs a) (unlk cs H) v d
  | _, _, .non, _ => .non
  | _, _, .bl b, _ => .bl b
  | _, _, .int i, _ => .int i
  | _, _, .str x, _ => .str x
  | _, _, .tup h1 h2 h3, n => .tup ⟨h1, lk.out h2 (fun _ _ y => by cases y)⟩ (by rw [unlk_out (lk.out h2 (fun _ _ y => by cases y))]; exact h2) (RepL.unlk lk h3 n)
  | _, _, .ktup h1 h3, n => .ktup h1 (RepL.unlk lk h3 n)
  | _, _, .lst h1 h2 h3, n => .lst ⟨h1, lk.out h2 (fun _ _ y => by cases y)⟩ (by rw [unlk_out (lk.out h2 (fun _ _ y => by cases y))]; exact h2) (RepL.unlk lk h3 n)
  | _, _, .dct h1 h2 h3, n => .dct ⟨h1, lk.out h2 (fun _ _ y => by cases y)⟩ (by rw [unlk_out (lk.out h2 (fun _ _ y => by cases y))]; exact h2) (RepK.unlk lk h3 n)
  | _, _, .obj h1 h2 h3 h4, n => .obj ⟨h1, lk.out h2 (fun _ _ y => by cases y)⟩ (by rw [unlk_out (lk.out h2 (fun _ _ y => by cases y))]; exact h2) h3 (RepF.unlk lk h4 n)
  | _, _, .fn h, _ => .fn h
  | _, _, .pen h, _ => .pen h
  | _, _, .clo _ _ _ _ _ _ _, n => by cases n
theorem RepL.unlk (lk : Lkd cs H) : ∀ {v : List V} {d : List D}, RepL Θ F H v d → D.noClos d = true → RepL (bare Θ) (fun a => F a ∧ ¬ cs a) (VL.unlk cs H) v d
  | _, _, .nil, _ => .nil
  | _, _, .cons h1 h2, n => by
    have n' := Bool.and_eq_true_iff.mp n
    exact .cons (Rep.unlk lk h1 n'.1) (RepL.unlk lk h2 n'.2)
theorem RepK.unlk (lk : Lkd cs H) : ∀ {v : List (Key × V)} {d : List (Str × D)}, RepK Θ F H v d → D.noCloK d = true → RepK (bare Θ) (fun a => F a ∧ ¬ cs a) (VL.unlk cs H) v d
  | _, _, .nil, _ => .nil
  | _, _, .cons h1 h2, n => by
    have n' := Bool.and_eq_true_iff.mp n
    exact .cons (Rep.unlk lk h1 n'.1) (RepK.unlk lk h2 n'.2)
theorem RepF.unlk (lk : Lkd cs H) : ∀ {v : List (Str × V)} {d : List (Str × D)}, RepF Θ F H v d → D.noCloK d = true → RepF (bare Θ) (fun a => F a ∧ ¬ cs a) (VL.unlk cs H) v d
  | _, _, .nil, _ => .nil
  | _, _, .cons h1 h2, n => by
    have n' := Bool.and_eq_true_iff.mp n
    exact .cons (Rep.unlk lk h1 n'.1) (RepF.unlk lk h2 n'.2)
end
theorem codeO_frz {c : Addr} {q : Str} : ∀ oc φ, LamX.CodeO c q ≠ .frz oc (.ext φ) := fun oc φ y => by
  have y' : HO.ext _ = HO.frz oc (.ext φ) := y
  cases y'
theorem tabs_unlk {T : List (Addr × Str)} (lk : Lkd cs H) (t : LamX.Tabs T H) : LamX.Tabs T (VL.unlk cs H) := fun p hp => by
  obtain ⟨ps, h1, h2, h3⟩ := t p hp
  refine ⟨ps, by rw [unlk_out (lk.out h1 (fun _ _ y => by cases y))]; exact h1, h2, fun pos cv hc => ?_⟩
  obtain ⟨c, e1, e2⟩ := h3 pos cv hc
  exact ⟨c, e1, by rw [unlk_out (lk.out e2 codeO_frz)]; exact e2⟩
theorem tabs_relk {T : List (Addr × Str)} (hn : ∀ c, cs c → H' c = none) (t : LamX.Tabs T H') : LamX.Tabs T (relk cs H H') := fun p hp => by
  have out : ∀ {b : Addr} {u : HO}, H' b = some u → ¬ cs b := fun {b u} q y => by rw [hn b y] at q; cases q
  obtain ⟨ps, h1, h2, h3⟩ := t p hp
  refine ⟨ps, by rw [relk_out (out h1)]; exact h1, h2, fun pos cv hc => ?_⟩
  obtain ⟨c, e1, e2⟩ := h3 pos cv hc
  exact ⟨c, e1, by rw [relk_out (out e2)]; exact e2⟩
theorem wd_unlk (lk : Lkd cs H) (w : Wd Θ F b H) : Wd (bare Θ) (fun a => F a ∧ ¬ cs a) b (VL.unlk cs H) where
  f := fun a h => by
    obtain ⟨o, e, n⟩ := w.f a h.1
    exact ⟨o, by rw [unlk_out h.2]; exact e, n⟩
  p := fun a e => by
    obtain ⟨⟨ns, a1, a2, a3, a4, e1, e2, r⟩, nf⟩ := w.p a e
    exact ⟨⟨ns, a1, a2, a3, a4, by rw [unlk_out (lk.out e1 (fun _ _ y => by cases y))]; exact e1, (unlk_out (lk.out e2 (fun _ _ y => by cases y))).trans e2, r⟩, fun h => nf h.1⟩
  tb := tabs_unlk lk w.tb
  cm := fun c d e => by cases e
mutual
theorem Rep.relk (hn : ∀ c, cs c → H' c = none) : ∀ {v : V} {d : D}, Rep (bare Θ) F' H' v d → Rep Θ (fun a => F' a ∨ (F a ∧ cs a)) (VL.relk cs H H') v d
  | _, _, .non => .non
  | _, _, .bl b => .bl b
  | _, _, .int i => .int i
  | _, _, .str x => .str x
  | _, _, .tup h1 h2 h3 => .tup (.inl h1) (by rw [relk_out (fun z => by rw [hn _ z] at h2; cases h2)]; exact h2) (RepL.relk hn h3)
  | _, _, .ktup h1 h3 => .ktup h1 (RepL.relk hn h3)
  | _, _, .lst h1 h2 h3 => .lst (.inl h1) (by rw [relk_out (fun z => by rw [hn _ z] at h2; cases h2)]; exact h2) (RepL.relk hn h3)
  | _, _, .dct h1 h2 h3 => .dct (.inl h1) (by rw [relk_out (fun z => by rw [hn _ z] at h2; cases h2)]; exact h2) (RepK.relk hn h3)
  | _, _, .obj h1 h2 h3 h4 => .obj (.inl h1) (by rw [relk_out (fun z => by rw [hn _ z] at h2; cases h2)]; exact h2) h3 (RepF.relk hn h4)
  | _, _, .fn h => .fn h
  | _, _, .pen h => .pen h
  | _, _, .clo h1 h2 h3 h4 h5 h6 h7 => .clo (.inl h1) (by rw [relk_out (fun z => by rw [hn _ z] at h2; cases h2)]; exact h2) (.inl h3) (by rw [relk_out (fun z => by rw [hn _ z] at h4; cases h4)]; exact h4) h5 h6 (by
      rcases h7 with h7 | ⟨h7, h8⟩
      · exact .inl h7
      · refine .inr ⟨h7, fun y hy e => ?_⟩
        obtain ⟨c, d, _, _, z⟩ := h8 y hy e
        cases z)
theorem RepL.relk (hn : ∀ c, cs c → H' c = none) : ∀ {v : List V} {d : List D}, RepL (bare Θ) F' H' v d → RepL Θ (fun a => F' a ∨ (F a ∧ cs a)) (VL.relk cs H H') v d
  | _, _, .nil => .nil
  | _, _, .cons h1 h2 => .cons (Rep.relk hn h1) (RepL.relk hn h2)
theorem RepK.relk (hn : ∀ c, cs c → H' c = none) : ∀ {v : List (Key × V)} {d : List (Str × D)}, RepK (bare Θ) F' H' v d → RepK Θ (fun a => F' a ∨ (F a ∧ cs a)) (VL.relk cs H H') v d
  | _, _, .nil => .nil
  | _, _, .cons h1 h2 => .cons (Rep.relk hn h1) (RepK.relk hn h2)
theorem RepF.relk (hn : ∀ c, cs c → H' c = none) : ∀ {v : List (Str × V)} {d : List (Str × D)}, RepF (bare Θ) F' H' v d → RepF Θ (fun a => F' a ∨ (F a ∧ cs a)) (VL.relk cs H H') v d
  | _, _, .nil => .nil
  | _, _, .cons h1 h2 => .cons (Rep.relk hn h1) (RepF.relk hn h2)
end
theorem ext_relk (lk : Lkd cs H) (w : Wd Θ F b H) (hn : ∀ c, cs c → H' c = none) (x : Ext (bare Θ) (fun a => F a ∧ ¬ cs a) b (VL.unlk cs H) F' b' H') : Ext Θ F b H (fun a => F' a ∨ (F a ∧ cs a)) b' (VL.relk cs H H') where
  f := fun a h => by
    by_cases z : cs a
    · exact .inr ⟨h, z⟩
    · exact .inl (x.f a ⟨h, z⟩)
  h := fun a o e n1 n2 => by
    by_cases z : cs a
    · rw [relk_in z]; exact e
    · rw [relk_out z]; exact x.h a o (by rw [unlk_out z]; exact e) n1 n2
  n := fun a h => by
    rcases h with h | h
    · have w' := (wd_unlk lk w).ext x
      obtain ⟨o, e, _⟩ := w'.f a h
      have z : ¬ cs a := fun z => by rw [hn a z] at e; cases e
      rcases x.n a h with q | ⟨q, o2, q2, q3⟩
      · exact .inl q.1
      · exact .inr ⟨by rw [unlk_out z] at q; exact q, o2, by rw [relk_out z]; exact q2, q3⟩
    · exact .inl h.1
  p := fun a e h => by
    obtain ⟨ns, a1, a2, a3, a4, e1, e2, r⟩ := id h
    have z1 := lk.out e1 (fun _ _ y => by cases y)
    have z2 := lk.out e2 (fun _ _ y => by cases y)
    obtain ⟨ns2, b1, b2, b3, b4, f1, f2, r2⟩ := x.p a e ⟨ns, a1, a2, a3, a4, by rw [unlk_out z1]; exact e1, (unlk_out z2).trans e2, r⟩
    exact ⟨ns2, b1, b2, b3, b4, by rw [relk_out z1]; exact f1, by rw [relk_out z2]; exact f2, r2⟩
  t := fun t => tabs_relk hn (x.t (tabs_unlk lk t))
  x := fun a o e => by
    by_cases z : cs a
    · exact ⟨o, by rw [relk_in z]; exact e⟩
    · obtain ⟨o2, e2⟩ := x.x a o (by rw [unlk_out z]; exact e)
      exact ⟨o2, by rw [relk_out z]; exact e2⟩
  tt := fun a ps e => by
    have z := lk.out e (fun _ _ y => by cases y)
    obtain ⟨ps2, e2⟩ := x.tt a ps (by rw [unlk_out z]; exact e)
    exact ⟨ps2, by rw [relk_out z]; exact e2⟩
  b := x.b
theorem repR_relk (hn : ∀ c, cs c → H' c = none) (hp : Wd Θ F b H) (lk : Lkd cs H) {v : V} {r : R} (h : RepR (bare Θ) (VL.unlk cs H) F' H' v r) : RepR Θ H (fun a => F' a ∨ (F a ∧ cs a)) (VL.relk cs H H') v r := by
  have one : ∀ {a : Addr} {d : D}, ¬ F' a → Cont (bare Θ) F' H' a d → ¬ cs a ∧ ¬ (F' a ∨ (F a ∧ cs a)) ∧ Cont Θ (fun a => F' a ∨ (F a ∧ cs a)) (VL.relk cs H H') a d := fun {a d} n c => by
    obtain ⟨o, e, _⟩ := c.there
    have z : ¬ cs a := fun z => by rw [hn a z] at e; cases e
    refine ⟨z, fun q => q.elim n (fun q => z q.2), ?_⟩
    cases d <;> try exact c.elim
    · obtain ⟨vs, e, r⟩ := c; exact ⟨vs, by rw [relk_out z]; exact e, RepL.relk hn r⟩
    · obtain ⟨vs, e, r⟩ := c; exact ⟨vs, by rw [relk_out z]; exact e, RepK.relk hn r⟩
  cases r with
  | val d => exact Rep.relk hn h
  | own d =>
    obtain ⟨a, e, n, p, c⟩ := h
    obtain ⟨_, n2, c2⟩ := one n c
    exact ⟨a, e, n2, p, c2⟩
  | frs d =>
    obtain ⟨a, e, n, p, t, c⟩ := h
    obtain ⟨z, n2, c2⟩ := one n c
    exact ⟨a, e, n2, p, by rw [unlk_out z] at t; exact t, c2⟩
theorem repX_relk (hn : ∀ c, cs c → H' c = none) {cls : Value} {d : Option Addr} {x : XD} (h : RepX (bare Θ) F' H' cls d x) : RepX Θ (fun a => F' a ∨ (F a ∧ cs a)) (VL.relk cs H H') cls d x := by
  obtain ⟨C, e1, e2, e3⟩ := h
  refine ⟨C, e1, e2, ?_⟩
  rcases e3 with e3 | ⟨dx, fs, q1, q2, q3⟩
  · exact .inl e3
  · exact .inr ⟨dx, fs, q1, by rw [relk_out (fun z => by rw [hn _ z] at q2; cases q2)]; exact q2, RepF.relk hn q3⟩
end
end VL
end
-- V29
section
set_option Elab.async false
set_option linter.all false
set_option maxRecDepth 100000
set_option maxHeartbeats 4000000
/-! Lambdas: the frame that makes them hands them on; its cells are locked meanwhile. -/
namespace VL
open PySem PySem.Spec PyProof.Rows
open L2 hiding St
/-- the cells cs are tracked, locked -/
def lock (cs : Addr → Option Obj) (H : Hp) : Hp := fun a => match cs a with
  | some oc => some (.frz oc (.ext fun h => ∃ o, h.get? a = some o))
  | none => H a
abbrev inC (cs : Addr → Option Obj) : Addr → Prop := fun a => (cs a).isSome = true
def CsOk (cs : Addr → Option Obj) (H : Hp) (h : Heap) : Prop := ∀ c oc, cs c = some oc → H c = none ∧ h.get? c = some oc
section
variable {cs : Addr → Option Obj} {H H' : Hp} {P : Program} {w : World} {h h' : Heap} {fs : List Addr}
theorem lock_in {c : Addr} {oc : Obj} (e : cs c = some oc) : lock cs H c = some (.frz oc (.ext fun h => ∃ o, h.get? c = some o)) := by unfold lock; rw [e]
theorem lock_out {c : Addr} (e : cs c = none) : lock cs H c = H c := by unfold lock; rw [e]
theorem CsOk.out (ok : CsOk cs H h) {a : Addr} {o : HO} (e : H a = some o) : cs a = none := by
  cases q : cs a with
  | none => rfl
  | some oc => rw [(ok a oc q).1] at e; cases e
theorem CsOk.nin (ok : CsOk cs H h) {a : Addr} {o : HO} (e : H a = some o) : ¬ inC cs a := by
  unfold inC; rw [ok.out e]; exact Bool.false_ne_true
theorem CsOk.keep (ok : CsOk cs H h) {a : Addr} {o : HO} (e : H a = some o) : lock cs H a = some o := by rw [lock_out (ok.out e)]; exact e
theorem CsOk.in {c : Addr} (e : inC cs c) : ∃ oc, cs c = some oc := Option.isSome_iff_exists.mp e
theorem CsOk.off {c : Addr} (e : ¬ inC cs c) : cs c = none := by
  cases q : cs c with
  | none => rfl
  | some oc => exact absurd (by unfold inC; rw [q]; rfl) e
theorem hok_lock (ok : CsOk cs H h) (hok : HOk P w H h) : HOk P w (lock cs H) h := fun a o e => by
  cases q : cs a with
  | some oc =>
    rw [lock_in q] at e; cases e
    have g := (ok a oc q).2
    exact ⟨g, ⟨_, g⟩, ⟨_, g⟩, fun h1 h2 ⟨o, ho⟩ k => ⟨o, k o ho⟩⟩
  | none =>
    rw [lock_out q] at e
    exact (hok a o e).stay (fun b v _ q => q) (fun b q => ok.keep q) fun b xs q => ok.keep q
theorem frz_there {a : Addr} {oc : Obj} {φ : Heap → Prop} {H : Hp} {h : Heap} (hok : HOk P w H h) (e : H a = some (.frz oc (.ext φ))) : h.get? a = some oc := by
  obtain ⟨q, _⟩ := (show ObjOk P w H h a (.frz oc _) from hok a _ e)
  exact q
theorem un_unlk (ok : CsOk cs H h) (u : Un fs [] (lock cs H) H' h h') (hok : HOk P w H' h') : Un fs [] H (unlk (inC cs) H') h h' where
  keep := fun b o e n hf hx => by
    cases q : cs b with
    | some oc =>
      have := frz_there hok (u.frzs b oc _ (lock_in q))
      rw [(ok b oc q).2] at e; cases e; exact this
    | none => exact u.keep b o e (by rw [lock_out q]; exact n) hf hx
  slot := fun b o e n hf hx => by
    cases q : cs b with
    | some oc =>
      have := frz_there hok (u.frzs b oc _ (lock_in q))
      rw [(ok b oc q).2] at e; cases e; exact ⟨o.slots, this⟩
    | none => exact u.slot b o e (by rw [lock_out q]; exact n) hf hx
  free := fun b o e n hx => by
    by_cases z : inC cs b
    · exact unlk_in z
    · rw [unlk_out z]; exact u.free b o e (by rw [lock_out (CsOk.off z)]; exact n) hx
  there := u.there
  tups := fun b xs e => by rw [unlk_out (ok.nin e)]; exact u.tups b xs (ok.keep e)
  frzs := fun b o v e => by rw [unlk_out (ok.nin e)]; exact u.frzs b o v (ok.keep e)
  tbls := fun b ps e => by rw [unlk_out (ok.nin e)]; exact u.tbls b ps (ok.keep e)
theorem ub_unlk {B : Heap} (ok : CsOk cs H h) (u : UB fs (lock cs H) H' h B h') (hok : HOk P w H' B) : UB fs H (unlk (inC cs) H') h B h' where
  keep := fun b o e n hf => by
    cases q : cs b with
    | some oc =>
      have := frz_there hok (u.frzs b oc _ (lock_in q))
      rw [(ok b oc q).2] at e; cases e; exact this
    | none => exact u.keep b o e (by rw [lock_out q]; exact n) hf
  slot := u.slot
  free := fun b o e n => by
    by_cases z : inC cs b
    · exact unlk_in z
    · rw [unlk_out z]; exact u.free b o e (by rw [lock_out (CsOk.off z)]; exact n)
  there := u.there
  tups := fun b xs e => by rw [unlk_out (ok.nin e)]; exact u.tups b xs (ok.keep e)
  frzs := fun b o v e => by rw [unlk_out (ok.nin e)]; exact u.frzs b o v (ok.keep e)
  tbls := fun b ps e => by rw [unlk_out (ok.nin e)]; exact u.tbls b ps (ok.keep e)
theorem tabs_lock {T : List (Addr × Str)} (ok : CsOk cs H h) (t : LamX.Tabs T H) : LamX.Tabs T (lock cs H) := fun p hp => by
  obtain ⟨ps, h1, h2, h3⟩ := t p hp
  refine ⟨ps, ok.keep h1, h2, fun pos cv hc => ?_⟩
  obtain ⟨c, e1, e2⟩ := h3 pos cv hc
  exact ⟨c, e1, ok.keep e2⟩
end
mutual
theorem fill_no {cap : List (Str × D)} {p : Nat → Prop} : ∀ {d : D}, d.noClo = true → d.fill cap = d ∧ d.allC p
  | .clo _ _, n => by cases n
  | .tup xs, n => by
    have h := fills_no (cap := cap) (p := p) (ds := xs) (by simpa [D.noClo] using n)
    simpa [D.fill, D.allC] using h
  | .lst xs, n => by
    have h := fills_no (cap := cap) (p := p) (ds := xs) (by simpa [D.noClo] using n)
    simpa [D.fill, D.allC] using h
  | .dct xs, n => by
    have h := fillK_no (cap := cap) (p := p) (ds := xs) (by simpa [D.noClo] using n)
    simpa [D.fill, D.allC] using h
  | .obj c xs, n => by
    have h := fillK_no (cap := cap) (p := p) (ds := xs) (by simpa [D.noClo] using n)
    simpa [D.fill, D.allC] using h
  | .non, _ => by simp [D.fill, D.allC]
  | .bl _, _ => by simp [D.fill, D.allC]
  | .int _, _ => by simp [D.fill, D.allC]
  | .str _, _ => by simp [D.fill, D.allC]
  | .fn _, _ => by simp [D.fill, D.allC]
  | .pen, _ => by simp [D.fill, D.allC]
theorem fills_no {cap : List (Str × D)} {p : Nat → Prop} : ∀ {ds : List D}, D.noClos ds = true → D.fills cap ds = ds ∧ D.allCs p ds
  | [], _ => by simp [D.fills, D.allCs]
  | x :: xs, n => by
    have n' := Bool.and_eq_true_iff.mp (show (x.noClo && D.noClos xs) = true by simpa [D.noClos] using n)
    have h1 := fill_no (cap := cap) (p := p) (d := x) n'.1
    have h2 := fills_no (cap := cap) (p := p) (ds := xs) n'.2
    simp only [D.fills, D.allCs]
    exact ⟨by rw [h1.1, h2.1], h1.2, h2.2⟩
theorem fillK_no {cap : List (Str × D)} {p : Nat → Prop} : ∀ {ds : List (Str × D)}, D.noCloK ds = true → D.fillK cap ds = ds ∧ D.allCK p ds
  | [], _ => by simp [D.fillK, D.allCK]
  | (k, x) :: xs, n => by
    have n' := Bool.and_eq_true_iff.mp (show (x.noClo && D.noCloK xs) = true by simpa [D.noCloK] using n)
    have h1 := fill_no (cap := cap) (p := p) (d := x) n'.1
    have h2 := fillK_no (cap := cap) (p := p) (ds := xs) n'.2
    simp only [D.fillK, D.allCK]
    exact ⟨by rw [h1.1, h2.1], h1.2, h2.2⟩
end
/-- what the callee knows -/
def lkΘ (Θ : Th) (cm : Addr → Option D) : Th := { Θ with cells := none, cm := cm }
/-- the lambda's names are among what is handed on -/
def CapOk (Θ : Th) (cap : List (Str × D)) (cm : Addr → Option D) (n : Nat) : Prop :=
  ∀ p b s, Θ.lam n = some (p, b, s) → ∀ y ∈ s.names, y.2 = .free → ∃ c d, (∃ cells, Θ.cells = some cells ∧ cells.lookup y.1 = some c) ∧ cap.lookup y.1 = some d ∧ cm c = some d
section
variable {Θ : Th} {cs : Addr → Option Obj} {F F' : Addr → Prop} {b b' : Nat} {H H' : Hp} {h : Heap} {cap : List (Str × D)} {cm : Addr → Option D}
abbrev lkF (cs : Addr → Option Obj) (F : Addr → Prop) : Addr → Prop := fun a => F a ∨ inC cs a
mutual
theorem Rep.lock (ok : CsOk cs H h) (hc : Θ.cells ≠ none) : ∀ {v : V} {d : D}, Rep Θ F H v d → d.allC (CapOk Θ cap cm) → Rep (lkΘ Θ cm) (lkF cs F) (lock cs H) v (d.fill cap)
  | _, _, .non, _ => .non
  | _, _, .bl b, _ => .bl b
  | _, _, .int i, _ => .int i
  | _, _, .str x, _ => .str x
  | _, _, .tup h1 h2 h3, n => .tup (.inl h1) (ok.keep h2) (RepL.lock ok hc h3 n)
  | _, _, .ktup h1 h3, n => .ktup h1 (RepL.lock ok hc h3 n)
  | _, _, .lst h1 h2 h3, n => .lst (.inl h1) (ok.keep h2) (RepL.lock ok hc h3 n)
  | _, _, .dct h1 h2 h3, n => .dct (.inl h1) (ok.keep h2) (RepK.lock ok hc h3 n)
  | _, _, .obj h1 h2 h3 h4, n => .obj (.inl h1) (ok.keep h2) h3 (RepF.lock ok hc h4 n)
  | _, _, .fn h, _ => .fn h
  | _, _, .pen h, _ => .pen h
  | _, _, .clo h1 h2 h3 h4 h5 h6 h7, n => by
    rcases h7 with ⟨rfl, cls, e, h8⟩ | ⟨e, _⟩
    · refine .clo (.inl h1) (ok.keep h2) (.inl h3) (ok.keep h4) h5 h6 (.inr ⟨rfl, fun y hy fr => ?_⟩)
      obtain ⟨c, d, ⟨cells, q1, q2⟩, q3, q4⟩ := n _ _ _ h5 y hy fr
      rw [e] at q1; cases q1
      exact ⟨c, d, (h8 y hy fr).trans q2, q3, q4⟩
    · exact absurd e hc
theorem RepL.lock (ok : CsOk cs H h) (hc : Θ.cells ≠ none) : ∀ {v : List V} {d : List D}, RepL Θ F H v d → D.allCs (CapOk Θ cap cm) d → RepL (lkΘ Θ cm) (lkF cs F) (VL.lock cs H) v (D.fills cap d)
  | _, _, .nil, _ => .nil
  | _, _, .cons h1 h2, n => .cons (Rep.lock ok hc h1 n.1) (RepL.lock ok hc h2 n.2)
theorem RepK.lock (ok : CsOk cs H h) (hc : Θ.cells ≠ none) : ∀ {v : List (Key × V)} {d : List (Str × D)}, RepK Θ F H v d → D.allCK (CapOk Θ cap cm) d → RepK (lkΘ Θ cm) (lkF cs F) (VL.lock cs H) v (D.fillK cap d)
  | _, _, .nil, _ => .nil
  | _, _, .cons h1 h2, n => .cons (Rep.lock ok hc h1 n.1) (RepK.lock ok hc h2 n.2)
theorem RepF.lock (ok : CsOk cs H h) (hc : Θ.cells ≠ none) : ∀ {v : List (Str × V)} {d : List (Str × D)}, RepF Θ F H v d → D.allCK (CapOk Θ cap cm) d → RepF (lkΘ Θ cm) (lkF cs F) (VL.lock cs H) v (D.fillK cap d)
  | _, _, .nil, _ => .nil
  | _, _, .cons h1 h2, n => .cons (Rep.lock ok hc h1 n.1) (RepF.lock ok hc h2 n.2)
end
end
end VL
end
-- V30
section
set_option Elab.async false
set_option linter.all false
set_option maxRecDepth 100000
set_option maxHeartbeats 4000000
/-! Lambdas: the call that hands them on. -/
namespace VL
open PySem PySem.Spec PyProof.Rows
open L2 hiding St
section
variable {Θ : Th} {cs : Addr → Option Obj} {F F' : Addr → Prop} {b b' : Nat} {H H' : Hp} {h : Heap} {cap : List (Str × D)} {cm : Addr → Option D}
/-- what the cells hold -/
def CmOk (Θ : Th) (cs : Addr → Option Obj) (F : Addr → Prop) (H : Hp) (cm : Addr → Option D) : Prop := ∀ c d, cm c = some d → ∃ (oc : Obj) (u : Value) (v : V), cs c = some oc ∧ oc.data = .cell (some u) ∧ RelV v u ∧ Rep Θ F H v d ∧ d.noClo = true
theorem wd_lock (ok : CsOk cs H h) (hc : Θ.cells ≠ none) (w : Wd Θ F b H) (cmk : CmOk Θ cs F H cm) : Wd (lkΘ Θ cm) (lkF cs F) b (lock cs H) where
  f := fun a h1 => by
    rcases h1 with h1 | h1
    · obtain ⟨o, e, n⟩ := w.f a h1; exact ⟨o, ok.keep e, n⟩
    · obtain ⟨oc, e⟩ := CsOk.in h1; exact ⟨_, lock_in e, fun ps z => by cases z⟩
  p := fun a e => by
    obtain ⟨⟨ns, a1, a2, a3, a4, e1, e2, r⟩, nf⟩ := w.p a e
    exact ⟨⟨ns, a1, a2, a3, a4, ok.keep e1, ok.keep e2, r⟩, fun q => q.elim nf (ok.nin e1)⟩
  tb := tabs_lock ok w.tb
  cm := fun c d e => by
    obtain ⟨oc, u, v, q1, q2, q3, q4, q5⟩ := cmk c d e
    have f := fill_no (cap := []) (p := CapOk Θ [] cm) q5
    have r := Rep.lock (cap := []) (cm := cm) ok hc q4 f.2
    rw [f.1] at r
    exact ⟨.inr (by simp [inC, q1]), oc, u, v, lock_in q1, q2, q3, r⟩
theorem lkd_of (ok : CsOk cs H h) (w : Wd Θ F b H) (x : Ext (lkΘ Θ cm) (lkF cs F) b (lock cs H) F' b' H') : Lkd (inC cs) H' := fun c z => by
  obtain ⟨oc, e⟩ := CsOk.in z
  refine ⟨oc, x.h c _ (lock_in e) (fun q => ?_) fun ps y => by cases y⟩
  obtain ⟨⟨ns, a1, a2, a3, a4, e1, _⟩, _⟩ := w.p c q
  exact ok.nin e1 z
theorem ext_unlk (ok : CsOk cs H h) (w : Wd Θ F b H) (x : Ext (lkΘ Θ cm) (lkF cs F) b (lock cs H) F' b' H') : Ext Θ F b H (fun a => F' a ∧ ¬ inC cs a) b' (unlk (inC cs) H') where
  f := fun a h1 => by
    obtain ⟨o, e, _⟩ := w.f a h1
    exact ⟨x.f a (.inl h1), ok.nin e⟩
  h := fun a o e n1 n2 => by rw [unlk_out (ok.nin e)]; exact x.h a o (ok.keep e) n1 n2
  n := fun a h1 => by
    rcases x.n a h1.1 with q | ⟨q, o, q2, q3⟩
    · exact q.elim .inl fun z => absurd z h1.2
    · rw [lock_out (CsOk.off h1.2)] at q
      exact .inr ⟨q, o, by rw [unlk_out h1.2]; exact q2, q3⟩
  p := fun a e h1 => by
    obtain ⟨ns, a1, a2, a3, a4, e1, e2, r⟩ := id h1
    obtain ⟨ns2, b1, b2, b3, b4, f1, f2, r2⟩ := x.p a e ⟨ns, a1, a2, a3, a4, ok.keep e1, ok.keep e2, r⟩
    exact ⟨ns2, b1, b2, b3, b4, by rw [unlk_out (ok.nin e1)]; exact f1, (unlk_out (ok.nin e2)).trans f2, r2⟩
  t := fun t => tabs_unlk (lkd_of ok w x) (x.t (tabs_lock ok t))
  x := fun a o e => by
    obtain ⟨o2, e2⟩ := x.x a o (ok.keep e)
    exact ⟨o2, by rw [unlk_out (ok.nin e)]; exact e2⟩
  tt := fun a ps e => by
    obtain ⟨ps2, e2⟩ := x.tt a ps (ok.keep e)
    exact ⟨ps2, by rw [unlk_out (ok.nin e)]; exact e2⟩
  b := x.b
mutual
/-- data without closures knows nothing of cells -/
theorem Rep.noCells : ∀ {v : V} {d : D}, Rep (bare (lkΘ Θ cm)) F H v d → d.noClo = true → Rep Θ F H v d
  | _, _, .non, _ => .non
  | _, _, .bl b, _ => .bl b
  | _, _, .int i, _ => .int i
  | _, _, .str x, _ => .str x
  | _, _, .tup h1 h2 h3, n => .tup h1 h2 (RepL.noCells h3 n)
  | _, _, .ktup h1 h3, n => .ktup h1 (RepL.noCells h3 n)
  | _, _, .lst h1 h2 h3, n => .lst h1 h2 (RepL.noCells h3 n)
  | _, _, .dct h1 h2 h3, n => .dct h1 h2 (RepK.noCells h3 n)
  | _, _, .obj h1 h2 h3 h4, n => .obj h1 h2 h3 (RepF.noCells h4 n)
  | _, _, .fn h, _ => .fn h
  | _, _, .pen h, _ => .pen h
  | _, _, .clo _ _ _ _ _ _ _, n => by cases n
theorem RepL.noCells : ∀ {v : List V} {d : List D}, RepL (bare (lkΘ Θ cm)) F H v d → D.noClos d = true → RepL Θ F H v d
  | _, _, .nil, _ => .nil
  | _, _, .cons h1 h2, n => by
    have n' := Bool.and_eq_true_iff.mp n
    exact .cons (Rep.noCells h1 n'.1) (RepL.noCells h2 n'.2)
theorem RepK.noCells : ∀ {v : List (Key × V)} {d : List (Str × D)}, RepK (bare (lkΘ Θ cm)) F H v d → D.noCloK d = true → RepK Θ F H v d
  | _, _, .nil, _ => .nil
  | _, _, .cons h1 h2, n => by
    have n' := Bool.and_eq_true_iff.mp n
    exact .cons (Rep.noCells h1 n'.1) (RepK.noCells h2 n'.2)
theorem RepF.noCells : ∀ {v : List (Str × V)} {d : List (Str × D)}, RepF (bare (lkΘ Θ cm)) F H v d → D.noCloK d = true → RepF Θ F H v d
  | _, _, .nil, _ => .nil
  | _, _, .cons h1 h2, n => by
    have n' := Bool.and_eq_true_iff.mp n
    exact .cons (Rep.noCells h1 n'.1) (RepF.noCells h2 n'.2)
end
theorem repR_unlk (lk : Lkd (inC cs) H') {v : V} {r : R} (hr : RepR (lkΘ Θ cm) (lock cs H) F' H' v r) (n : r.d.noClo = true) : RepR Θ H (fun a => F' a ∧ ¬ inC cs a) (unlk (inC cs) H') v r := by
  have one : ∀ {a : Addr} {d : D}, d.noClo = true → Cont (lkΘ Θ cm) F' H' a d → ¬ inC cs a ∧ Cont Θ (fun a => F' a ∧ ¬ inC cs a) (unlk (inC cs) H') a d := fun {a d} n c => by
    cases d <;> try exact c.elim
    · obtain ⟨vs, e, r⟩ := c
      have z := lk.out e (fun _ _ y => by cases y)
      exact ⟨z, vs, by rw [unlk_out z]; exact e, RepL.noCells (RepL.unlk lk r n) n⟩
    · obtain ⟨vs, e, r⟩ := c
      have z := lk.out e (fun _ _ y => by cases y)
      exact ⟨z, vs, by rw [unlk_out z]; exact e, RepK.noCells (RepK.unlk lk r n) n⟩
  cases r with
  | val d => exact Rep.noCells (Rep.unlk lk hr n) n
  | own d =>
    obtain ⟨a, e, n1, p, c⟩ := hr
    obtain ⟨_, c2⟩ := one n c
    exact ⟨a, e, fun q => n1 q.1, p, c2⟩
  | frs d =>
    obtain ⟨a, e, n1, p, t, c⟩ := hr
    obtain ⟨z, c2⟩ := one n c
    exact ⟨a, e, fun q => n1 q.1, p, by rw [lock_out (CsOk.off z)] at t; exact t, c2⟩
theorem repX_unlk (lk : Lkd (inC cs) H') {cls : Value} {d : Option Addr} {z : XD} (h : RepX (lkΘ Θ cm) F' H' cls d z) (n : D.noCloK z.fs = true) : RepX Θ (fun a => F' a ∧ ¬ inC cs a) (unlk (inC cs) H') cls d z := by
  obtain ⟨C, e1, e2, e3⟩ := h
  refine ⟨C, e1, e2, ?_⟩
  rcases e3 with e3 | ⟨dx, fs, q1, q2, q3⟩
  · exact .inl e3
  · exact .inr ⟨dx, fs, q1, by rw [unlk_out (lk.out q2 (fun _ _ y => by cases y))]; exact q2, RepF.noCells (RepF.unlk lk q3 n) n⟩
end
/-- a def is called with closures of this frame -/
theorem call_lock {Y : Wo} {Θ : Th} {k : Nat} {x : Str} {m : List D → M R} (hc : FnM Y (core Θ) k x m) (hcl : Θ.cells ≠ none) : ∃ f, Y.mg x = some (.ref f) ∧ PySem.W.keepIn Y.K (.ref f) = true ∧
    ∀ {X : Cx}, X.prog = Y.P → X.w = Y.w → X.K = Y.K → X.mg = Y.mg → X.base = Y.base → Room k X.A → X.A.guards = some [] → ∀ {W : WX}, Takes X W →
      ∀ {pins : List (Addr × Obj)} {s : Shared} {σ : St} {F : Addr → Prop} {b : Nat} {H : Hp} {Q : VK} {P : R → Nat → Prop} {E : XD → Nat → Prop} {us : List Value} {vs : List V} {ds : List D} {cs : Addr → Option Obj} {cap : List (Str × D)} {cm : Addr → Option D},
        Inv X pins σ H s → Vals vs us → RepL Θ F H vs ds → Wd Θ F b H → CsOk cs H s.heap → (∀ c oc, cs c = some oc → X.base.get? c = none ∧ c ∉ frs X.stack) → CmOk Θ cs F H cm → D.allCs (CapOk Θ cap cm) ds → handM m cap ds P E b →
        (∀ r b', P r b' → ∀ v F' H', Ext Θ F b H F' b' H' → RepR Θ H F' H' v r → Q v H') → (∀ z b', E z b' → ∀ cls d F' H', Ext Θ F b H F' b' H' → RepX Θ F' H' cls d z → W cls d σ H') →
        wpAny (model X.prog X.w) X.A (call (.ref f) us) (EP X pins σ Q) X.xe s := by
  obtain ⟨f, hm, hk, _, go⟩ := hc
  refine ⟨f, hm, hk, ?_⟩
  intro X hP hw hK hmg hbase hr hg W tk pins s σ F b H Q P E us vs ds cs cap cm Iv rv rl w ok out cmk al mm pok pex
  have e0 := Iv.env0
  rw [hP, hw, hK, hmg, hbase] at e0
  have non : ∀ {c}, (∀ oc, cs c ≠ some oc) → H c = none → lock cs H c = none := fun {c} q e => by
    have : cs c = none := by
      cases q2 : cs c with
      | none => rfl
      | some oc => exact absurd q2 (q oc)
    rw [lock_out this]; exact e
  have e0L : Env0 Y.P Y.w Y.K Y.mg Y.base X.A X.stack s (lock cs H) := ⟨e0.frames, e0.mod, fun b o q => ⟨(e0.bs b o q).1, non (fun oc z => by
      have := (out b oc z).1
      rw [hbase, q] at this; cases this) (e0.bs b o q).2⟩, e0.bsz, e0.funs, fun b hb => non (fun oc z => (out b oc z).2 hb) (e0.frf b hb), hok_lock ok e0.hok, e0.bare⟩
  have wl := wd_lock ok hcl w cmk
  have rc := go X.A X.stack s (lock cs H) us vs (fun v H3 => Q v (unlk (inC cs) H3)) (fun cls d H3 => W cls d σ (unlk (inC cs) H3)) hr hg e0L rv
    ⟨Θ.pa, Θ.pc, cm, lkF cs F, b, D.fills cap ds, _, _, lkΘ Θ cm, rfl, RepL.lock ok hcl rl al, wl, mm, fun r b' hp v F' H' x r' => by
      have lk := lkd_of ok w x
      exact pok r b' hp.2 v _ _ (ext_unlk ok w x) (repR_unlk lk r' hp.1), fun z b' hz cls d F' H' x rx => by
      have lk := lkd_of ok w x
      exact pex z b' hz.2 cls d _ _ (ext_unlk ok w x) (repX_unlk lk rx hz.1)⟩
  have toCX : ∀ {u : Value} {s2 : Shared}, L2.CX Y.P Y.w X.stack (lock cs H) s (fun cls d H3 => W cls d σ (unlk (inC cs) H3)) u s2 → L2.CX Y.P Y.w X.stack H s (fun cls d H' => W cls d σ H') u s2 := fun {u s2} h => by
    obtain ⟨a, B, H3, cls, d, eu, fl, hok3, ub, na, os, ag, q⟩ := h
    have lk : Lkd (inC cs) H3 := fun c z => by
      obtain ⟨oc, e⟩ := CsOk.in z
      exact ⟨oc, ub.frzs c oc _ (lock_in e)⟩
    exact ⟨a, B, _, cls, d, eu, fl, hok_unlk hok3 lk, ub_unlk ok ub hok3, unlk_none na, os, ag, q⟩
  rw [← hP, ← hw] at rc toCX
  refine wpAny_call (codeAny_mono rc fun fl s2 hq => ?_)
  cases fl with
  | error u => exact passAt tk σ pins H s u s2 Iv (toCX hq)
  | ok fl =>
    cases fl with
    | ret u =>
      obtain ⟨v, H3, os, bare', un, hok3, r, q⟩ := hq
      have lk : Lkd (inC cs) H3 := fun c z => by
        obtain ⟨oc, e⟩ := CsOk.in z
        exact ⟨oc, un.frzs c oc _ (lock_in e)⟩
      exact Iv.after ⟨v, _, os, bare', un_unlk ok un hok3, hok_unlk hok3 lk, r, q⟩
    | next => exact hq.elim
    | brk => exact hq.elim
    | cont => exact hq.elim
end VL
end
-- V31
section
set_option Elab.async false
set_option linter.all false
set_option maxRecDepth 100000
set_option maxHeartbeats 4000000
/-! Lambdas: they are made. -/
namespace VL
open PySem PySem.Spec PyProof.Rows
open L2 hiding St
section
variable {X : Cx} {pins : List (Addr × Obj)} {σ : L2.St} {H : Hp} {s : Shared}
/-- the name of a lambda of this frame -/
abbrev lamQ (X : Cx) : Str := X.env.qual ++ "<lambda>"
/-- behind the making: f the new function, c' its code -/
structure Made (T : List (Addr × Str)) (H H2 : Hp) (q : Str) (f c' : Addr) (o : HO) : Prop where
  new : H f = none
  fn : H2 f = some o
  cd : H2 c' = some (LamX.CodeO c' q)
  cn : H c' = none ∨ ∃ r, H c' = some (LamX.CodeO c' r)
  old : LamX.ExtN H H2
  tb : LamX.Tabs T H2
  tt : ∀ a ps, H a = some (.tbl ps) → ∃ ps', H2 a = some (.tbl ps')
theorem lamO_laid {f c' : Addr} {q : Str} {params : Arguments} {body : Expr} {scope : Scope} {cl : List (Str × Addr)} {pm ctv : Value} {h1 : Heap} {H1 : Hp} {t' : Nat} (I : Inv X pins σ H1 s) (hk : ∀ b u, s.heap.get? b = some u → h1.get? b = some u) (hf : s.heap.objs.size ≤ f)
    (g : h1.get? f = some (PySem.W.kla_obj "<lambda>" q params body scope cl pm c' ctv)) : Inv X pins σ (upd H1 f (LamO f q params body scope cl c')) { s with heap := h1, toks := t' } :=
  I.laid hk hf ⟨⟨pm, ctv, g⟩, ⟨_, g⟩, fun a b ⟨pm, ctv, e⟩ st => ⟨pm, ctv, st _ e⟩⟩
theorem lam_new {T : List (Addr × Str)} {c P : Addr} {params : Arguments} {body : Expr} {scope : Scope} {pos : Pos} {E : Value → Shared → Prop} {Q : Value → Shared → Prop} (I : Inv X pins σ H s) (TB : LamX.TabB X.base X.mg c P) (hcode : X.env.code = .ref c)
    (hm : (P, lamQ X) ∈ T) (hu : ∀ p ∈ T, p.1 = P → p.2 = lamQ X) (hT : LamX.Tabs T H) (hdef : defaultsOf params X.env = ([], [])) (hfree : ∀ y ∈ scope.names, y.2 = .free → ∃ c, X.env.cells.lookup y.1 = some c)
    (k : ∀ (f c' : Addr) (H2 : Hp) (s2 : Shared), Inv X pins σ H2 s2 → Made T H H2 (lamQ X) f c' (LamO f (lamQ X) params body scope (cloFrom X.env.cells scope.names []) c') → Q (.ref f) s2) :
    wpAny (model X.prog X.w) X.A (eval (.Lambda params body scope pos) X.env) Q E s := by
  obtain ⟨ps, atP, tri, codes⟩ := hT _ hm
  have tabObj := (show s.heap.get? P = some { cls := .none, data := .fields ps } from I.hok P _ atP)
  have blt := TB.bm.keeps I.bk
  have glo := I.mod.glob.keeps I.bk
  have chd := TB.code.keeps I.bk
  refine PySem.W.kla_eval hdef ?_
  cases hit : codeAmong pos ps.toList with
  | some cv =>
    obtain ⟨c', rfl, known⟩ := codes pos cv hit
    refine PySem.W.kla_makeFunctionHit (mg := X.mg) (c := c) (P := P) (ps := ps) (closure_ok hfree) I.ok.glob glo hcode chd tabObj tri hit blt fun ctv h1 tk kp sz => ?_
    have I1 := I.kept (h' := h1) (t' := tk) kp
    have I2 := lamO_laid (t' := tk) (f := h1.objs.size) (c' := c') (q := lamQ X) (params := params) (body := body) (scope := scope) (cl := cloFrom X.env.cells scope.names []) (pm := (X.mg "__name__").getD .none) (ctv := ctv) I1 (fun b u e => Heap.get?_push_of_some _ e) (Nat.le_refl _) (Heap.get?_push_size h1 rfl)
    have nf : H h1.objs.size = none := I.hok.fresh sz
    have ex : ∀ a o, H a = some o → upd H h1.objs.size (LamO h1.objs.size (lamQ X) params body scope (cloFrom X.env.cells scope.names []) c') a = some o := fun a o e => by rw [upd_ne (ne_of_none e nf)]; exact e
    refine k _ c' _ _ I2 ⟨nf, upd_same, ex _ _ known, .inr ⟨_, known⟩, fun a o e _ => ex a o e, hT.ext ex, fun a ps e => ⟨ps, ex a _ e⟩⟩
  | none =>
    refine PySem.W.kla_makeFunction (mg := X.mg) (c := c) (P := P) (ps := ps) (closure_ok hfree) I.ok.glob glo hcode chd tabObj tri hit TB.gP blt fun c' ctv h1 tk but ge lt rec_ tab1 => ?_
    obtain ⟨_, oc, vs, t, e2, g1, g2, g3⟩ := rec_
    cases e2
    have sz : s.heap.objs.size ≤ h1.objs.size := Nat.le_trans ge (Nat.le_of_lt lt)
    have I1 := LamX.inv_table (t' := tk) (q := lamQ X) (h' := h1) I atP but tab1 ge ⟨oc, vs, t, g1, g2, g3⟩
    have I2 := lamO_laid (t' := tk) (f := h1.objs.size) (c' := c') (q := lamQ X) (params := params) (body := body) (scope := scope) (cl := cloFrom X.env.cells scope.names []) (pm := (X.mg "__name__").getD .none) (ctv := ctv) I1 (fun b u e => Heap.get?_push_of_some _ e) (Nat.le_refl _) (Heap.get?_push_size h1 rfl)
    have nc : H c' = none := I.hok.fresh ge
    have nf : H h1.objs.size = none := I.hok.fresh sz
    have fc : h1.objs.size ≠ c' := Nat.ne_of_gt lt
    have Pc : P ≠ c' := ne_of_none atP nc
    have Pf : P ≠ h1.objs.size := ne_of_none atP nf
    refine k _ c' _ _ I2 ⟨nf, upd_same, ?_, .inl nc, ?_, ?_, ?_⟩
    · rw [upd_ne (Ne.symm fc), upd_same]
    · intro a o e n
      have aP : a ≠ P := by
        rintro rfl
        rw [atP] at e
        exact n ps (Option.some.inj e).symm
      rw [upd_ne (ne_of_none e nf), upd_ne (ne_of_none e nc), upd_ne aP]
      exact e
    · intro p hp
      by_cases hb : p.1 = P
      · have e1 := hu p hp hb
        rw [hb, e1]
        refine ⟨_, by rw [upd_ne Pf, upd_ne Pc, upd_same], ?_, ?_⟩
        · rw [Array.toList_append]; exact PySem.TriplesOk_snoc _ _ _ _ tri
        · intro pos' cv' among
          rw [Array.toList_append] at among
          rcases LamX.among_app _ tri among with z | z
          · obtain ⟨c0, e0, known⟩ := codes pos' cv' z
            refine ⟨c0, e0, ?_⟩
            have cP : c0 ≠ P := by
              rintro rfl
              rw [atP] at known
              exact LamX.codeO_ne ps (Option.some.inj known).symm
            rw [upd_ne (ne_of_none known nf), upd_ne (ne_of_none known nc), upd_ne cP]
            exact known
          · exact ⟨c', z, by rw [upd_ne (Ne.symm fc), upd_same]⟩
      · obtain ⟨ps2, a1, a2, a3⟩ := hT p hp
        refine ⟨ps2, by rw [upd_ne (ne_of_none a1 nf), upd_ne (ne_of_none a1 nc), upd_ne hb]; exact a1, a2, ?_⟩
        intro pos' cv' among
        obtain ⟨c0, e0, known⟩ := a3 pos' cv' among
        refine ⟨c0, e0, ?_⟩
        have cP : c0 ≠ P := by
          rintro rfl
          rw [atP] at known
          exact LamX.codeO_ne ps (Option.some.inj known).symm
        rw [upd_ne (ne_of_none known nf), upd_ne (ne_of_none known nc), upd_ne cP]
        exact known
    · intro a ps2 e
      by_cases hb : a = P
      · exact ⟨_, by rw [hb, upd_ne Pf, upd_ne Pc, upd_same]⟩
      · exact ⟨ps2, by rw [upd_ne (ne_of_none e nf), upd_ne (ne_of_none e nc), upd_ne hb]; exact e⟩
end
end VL
end
-- V32
section
set_option Elab.async false
set_option linter.all false
set_option maxRecDepth 100000
set_option maxHeartbeats 4000000
/-! Lambdas: what stands behind the making. -/
namespace VL
open PySem PySem.Spec PyProof.Rows
open L2 hiding St
theorem lamO_noTab {f : Addr} {q : Str} {params : Arguments} {body : Expr} {scope : Scope} {cl : List (Str × Addr)} {c' : Addr} : NoTab (LamO f q params body scope cl c') := fun ps z => by
  unfold LamO at z; cases z
theorem codeO_noTab {c : Addr} {q : Str} : NoTab (LamX.CodeO c q) := fun ps z => LamX.codeO_ne ps z
section
variable {Θ : Th} {F : Addr → Prop} {b : Nat} {H H2 : Hp} {q : Str} {f c' : Addr} {o : HO}
theorem Made.ext (m : Made Θ.tabs H H2 q f c' o) (no : NoTab o) : Ext Θ F b H (fun a => F a ∨ a = f ∨ a = c') b H2 where
  f := fun _ h => .inl h
  h := fun a u e _ n => m.old a u e n
  n := fun a h => by
    rcases h with h | rfl | rfl
    · exact .inl h
    · exact .inr ⟨.inl m.new, _, m.fn, no⟩
    · exact .inr ⟨m.cn, _, m.cd, codeO_noTab⟩
  p := fun a e h => by
    obtain ⟨ns, x1, x2, x3, x4, e1, e2, r⟩ := h
    exact ⟨ns, x1, x2, x3, x4, m.old _ _ e1 (fun ps z => by cases z), m.old _ _ e2 (fun ps z => by cases z), r⟩
  t := fun _ => m.tb
  x := fun a u e => by
    by_cases z : ∃ ps, u = .tbl ps
    · obtain ⟨ps, rfl⟩ := z
      obtain ⟨ps', e'⟩ := m.tt a ps e
      exact ⟨_, e'⟩
    · exact ⟨u, m.old a u e fun ps y => z ⟨ps, y⟩⟩
  tt := m.tt
  b := Nat.le_refl _
/-- the new function stands for the closure -/
theorem Made.rep {cells : List (Str × Addr)} {params : Arguments} {body : Expr} {scope : Scope} {n : Nat} (m : Made Θ.tabs H H2 q f c' (LamO f q params body scope (cloFrom cells scope.names []) c')) (hl : Θ.lam n = some (params, body, scope)) (hc : Θ.cells = some cells)
    (inj : ∀ x y c, cells.lookup x = some c → cells.lookup y = some c → x = y) (hfree : ∀ y ∈ scope.names, y.2 = .free → ∃ c, cells.lookup y.1 = some c) : Rep Θ (fun a => F a ∨ a = f ∨ a = c') H2 (.ref f) (.clo n []) := by
  refine .clo (.inr (.inl rfl)) m.fn (.inr (.inr rfl)) m.cd hl ⟨fun x y c e1 e2 => ?_, fun y c e => ?_⟩ (.inl ⟨rfl, cells, hc, fun y hy fr => ?_⟩)
  · exact inj x y c (NdefX.clo_cm hfree e1) (NdefX.clo_cm hfree e2)
  · rcases cloFrom_mem (PySem.mem_of_lookup e) with z | z
    · cases z
    · exact z.1
  · obtain ⟨n, kd⟩ := y
    cases (show kd = .free from fr)
    obtain ⟨c, e⟩ := hfree _ hy rfl
    exact (NdefX.clo_has hfree hy e).trans e.symm
end
end VL
end
-- V33
section
set_option Elab.async false
set_option linter.all false
set_option maxRecDepth 100000
set_option maxHeartbeats 4000000
/-! Lambdas: the term. -/
namespace VL
open PySem PySem.Spec PyProof.Rows
open L2 hiding St
/-- a frame that makes lambdas: c its code object, P the table -/
structure MkX (X : Cx) (Θ : Th) (c P : Addr) : Prop where
  tb : LamX.TabB X.base X.mg c P
  code : X.env.code = .ref c
  mem : (P, lamQ X) ∈ Θ.tabs
  uq : ∀ p ∈ Θ.tabs, p.1 = P → p.2 = lamQ X
  cells : Θ.cells = some X.env.cells
theorem e_lam {X : Cx} {Θ : Th} {e : En} {W : WX} {c P : Addr} {n : Nat} {params : Arguments} {body : Expr} {scope : Scope} {pos : Pos} (mk : MkX X Θ c P) (hl : Θ.lam n = some (params, body, scope)) (hdef : defaultsOf params X.env = ([], [])) (S : LamX.LamS X.env.scope scope) :
    PE X (.Lambda params body scope pos) (tV Θ e W fun _ => ret (.val (.clo n []))) := by
  refine ⟨fun pins s σ H Q I h => ?_⟩
  obtain ⟨F, b, ρ, P', E', ok, m, post⟩ := h
  have hfree := S.has I.ok
  exact lam_new I mk.tb mk.code mk.mem mk.uq ok.wd.tb hdef hfree fun f c' H2 s2 I2 md => ⟨.ref f, H2, I2, rfl, post.ok _ _ m _ _ _ (md.ext lamO_noTab) (md.rep hl mk.cells I.ok.inj hfree)⟩
end VL
end
-- V34
section
set_option Elab.async false
set_option linter.all false
set_option maxRecDepth 100000
set_option maxHeartbeats 4000000
/-! Lambdas: the call that hands them on, as a term. -/
namespace VL
open PySem PySem.Spec PyProof.Rows
open L2 hiding St
theorem capOf_get {ρ : Env'} : ∀ {caps : List (Str × Nat)} {cap : List (Str × D)}, capOf ρ caps = some cap → cap.map (·.1) = caps.map (·.1) ∧ ∀ y d, (y, d) ∈ cap → ∃ i, (y, i) ∈ caps ∧ ρ[i]? = some (some (.val d)) ∧ d.noClo = true
  | [], cap, h => by cases h; exact ⟨rfl, fun _ _ z => by cases z⟩
  | (y, i) :: r, cap, h => by
    unfold capOf at h
    split at h
    · rename_i d l q1 q2
      split at h
      · rename_i q3
        cases h
        obtain ⟨e1, e2⟩ := capOf_get q2
        refine ⟨by rw [List.map_cons, List.map_cons, e1], fun z d' m => ?_⟩
        rcases List.mem_cons.mp m with m | m
        · cases m; exact ⟨i, List.mem_cons_self, q1, q3⟩
        · obtain ⟨j, a, b⟩ := e2 z d' m
          exact ⟨j, List.mem_cons_of_mem _ a, b⟩
      · cases h
    · cases h
def cmOf (cells : List (Str × Addr)) (cap : List (Str × D)) (a : Addr) : Option D := (cap.find? fun p => decide (cells.lookup p.1 = some a)).map (·.2)
theorem cmOf_get {cells : List (Str × Addr)} {cap : List (Str × D)} {a : Addr} {d : D} (h : cmOf cells cap a = some d) : ∃ y, (y, d) ∈ cap ∧ cells.lookup y = some a := by
  unfold cmOf at h
  cases q : cap.find? fun p => decide (cells.lookup p.1 = some a) with
  | none => rw [q] at h; cases h
  | some p =>
    rw [q] at h; cases h
    exact ⟨p.1, List.mem_of_find?_eq_some q, by simpa using List.find?_some q⟩
theorem cmOf_has {cells : List (Str × Addr)} (inj : ∀ x y c, cells.lookup x = some c → cells.lookup y = some c → x = y) {y : Str} {a : Addr} (e : cells.lookup y = some a) : ∀ {cap : List (Str × D)}, y ∈ cap.map (·.1) → ∃ d, cap.lookup y = some d ∧ cmOf cells cap a = some d
  | [], h => by cases h
  | (z, d) :: r, h => by
    by_cases q : z = y
    · subst q
      refine ⟨d, by rw [List.lookup_cons]; simp, ?_⟩
      unfold cmOf
      rw [List.find?_cons]
      simp [e]
    · have q2 : cells.lookup z ≠ some a := fun w => q (inj _ _ _ w e)
      obtain ⟨d', h1, h2⟩ := cmOf_has inj e (cap := r) (by
        rw [List.map_cons] at h
        rcases List.mem_cons.mp h with w | w
        · exact absurd w.symm q
        · exact w)
      refine ⟨d', ?_, ?_⟩
      · rw [List.lookup_cons]
        have : (y == z) = false := by simpa using fun w => q w.symm
        rw [this]; exact h1
      · unfold cmOf at h2 ⊢
        rw [List.find?_cons]
        simp [q2]
        simpa using h2
theorem allCs_imp {p q : Nat → Prop} (h : ∀ n, p n → q n) : (∀ d : D, d.allC p → d.allC q) ∧ (∀ ds : List D, D.allCs p ds → D.allCs q ds) := by
  have key : ∀ k, (∀ d : D, sizeOf d < k → d.allC p → d.allC q) ∧ (∀ ds : List D, sizeOf ds < k → D.allCs p ds → D.allCs q ds) ∧ (∀ ds : List (Str × D), sizeOf ds < k → D.allCK p ds → D.allCK q ds) := by
    intro k
    induction k with
    | zero => exact ⟨fun _ z => by omega, fun _ z => by omega, fun _ z => by omega⟩
    | succ k ih =>
      obtain ⟨i1, i2, i3⟩ := ih
      refine ⟨fun d z a => ?_, fun ds z a => ?_, fun ds z a => ?_⟩
      · cases d with
        | clo n c => exact h n a
        | tup xs => exact i2 xs (by simp at z; omega) a
        | lst xs => exact i2 xs (by simp at z; omega) a
        | dct xs => exact i3 xs (by simp at z; omega) a
        | obj c xs => exact i3 xs (by simp at z; omega) a
        | _ => trivial
      · cases ds with
        | nil => trivial
        | cons x xs => exact ⟨i1 x (by simp at z; omega) a.1, i2 xs (by simp at z; omega) a.2⟩
      · cases ds with
        | nil => trivial
        | cons x xs =>
          obtain ⟨kk, x⟩ := x
          exact ⟨i1 x (by simp at z; omega) a.1, i3 xs (by simp at z; omega) a.2⟩
  exact ⟨fun d a => (key _).1 d (Nat.lt_succ_self _) a, fun ds a => (key _).2.1 ds (Nat.lt_succ_self _) a⟩
end VL
end
-- V35
section
set_option Elab.async false
set_option linter.all false
set_option maxRecDepth 100000
set_option maxHeartbeats 4000000
/-! Lambdas: the frame's cells, ready to be locked. -/
namespace VL
open PySem PySem.Spec PyProof.Rows
open L2 hiding St
theorem cells_lock {X : Cx} {Θ : Th} {e : En} {pins : List (Addr × Obj)} {s : Shared} {F : Addr → Prop} {b : Nat} {H : Hp} {σ : St} {ρ : Env'} {caps : List (Str × Nat)} {cap : List (Str × D)} {cells : List (Str × Addr)} (I : Inv X pins σ H s) (hce : caps ≠ [] → cells = X.env.cells)
    (hN : ∀ p ∈ caps, X.N[p.2]? = some p.1 ∧ X.env.scope.names.lookup p.1 = some .cell) (fnc : caps ≠ [] → ∀ y, X.env.scope.names.lookup y = some .cell → X.fn y = true) (ok : EOk Θ e F b H σ ρ) (hc : capOf ρ caps = some cap) :
    ∃ cs, CsOk cs H s.heap ∧ (∀ c oc, cs c = some oc → X.base.get? c = none ∧ c ∉ frs X.stack) ∧ CmOk Θ cs F H (cmOf cells cap) := by
  let inn : Addr → Prop := fun a => ∃ y d, (y, d) ∈ cap ∧ X.env.cells.lookup y = some a
  haveI : DecidablePred inn := fun a => Classical.propDecidable (inn a)
  obtain ⟨_, g⟩ := capOf_get hc
  refine ⟨fun a => if inn a then s.heap.get? a else none, fun c oc h => ?_, fun c oc h => ?_, fun c d h => ?_⟩
  · by_cases z : inn c
    · have h : s.heap.get? c = some oc := by simpa [z] using h
      obtain ⟨y, d, m, q⟩ := z
      exact ⟨I.freeC y c q, h⟩
    · simp [z] at h
  · by_cases z : inn c
    · obtain ⟨y, d, m, q⟩ := z
      obtain ⟨i, m2, _⟩ := g y d m
      have ge := I.ok.cab y c (fnc (fun z => by rw [z] at m2; cases m2) y (hN _ m2).2) q
      have new : X.s_0.heap.get? c = none := by
        cases w : X.s_0.heap.get? c with
        | none => rfl
        | some o => exact absurd (Nat.lt_of_lt_of_le (Heap.lt_size w) ge) (Nat.lt_irrefl _)
      refine ⟨?_, fun hm => ?_⟩
      · cases w : X.base.get? c with
        | none => rfl
        | some o => rw [(I.ok.bs c o w).1] at new; cases new
      · rcases List.mem_cons.mp (I.stkSub _ hm) with w | w
        · exact I.cne y c q w
        · obtain ⟨_, o', e', _⟩ := I.ok.funs.mem w
          rw [new] at e'; cases e'
    · simp [z] at h
  · obtain ⟨y, m, q⟩ := cmOf_get h
    obtain ⟨i, m2, r, no⟩ := g y d m
    rw [hce (fun z => by rw [z] at m2; cases m2)] at q
    obtain ⟨n1, n2⟩ := hN _ m2
    obtain ⟨v, hv, rep⟩ := ok.sl i _ r
    obtain ⟨mm, _, look⟩ := I.loc
    obtain ⟨u, ru, lk⟩ := look i y v n1 hv (.inr (.inl n2))
    have cell : s.heap.IsCell c (some u) := by
      rcases lk with ⟨k, _⟩ | ⟨_, c2, e2, z⟩
      · have k : X.env.scope.names.lookup y = some .local := k
        rw [n2] at k; cases k
      · rw [q] at e2; cases e2; exact z
    obtain ⟨oc, ho, hd⟩ := cell
    exact ⟨oc, u, v, by simp only []; rw [if_pos ⟨y, d, m, q⟩]; exact ho, hd, ru, rep, no⟩
end VL
end
-- V36
section
set_option Elab.async false
set_option linter.all false
set_option maxRecDepth 100000
set_option maxHeartbeats 4000000
/-! Lambdas: a call that hands them on, read off the text. -/
namespace VL
open PySem PySem.Spec PyProof.Rows
open L2 hiding St
section
variable {X : Cx} {Y : Wo} {Θ : Th} {k : Nat} {W : WX} {e : En}
theorem args_keptR {σ : St} {H : Hp} {fs : Env' → M (List R)} {g : Env' → List D → M R} {Q : VK} {T : List V → Hp → Prop} (h : tV Θ e W (fun ρ => bnd (fs ρ) fun rs => bnd (keptAll rs) (g ρ)) σ H Q)
    (rule : ∀ {F F2 : Addr → Prop} {b b2 : Nat} {H2 : Hp} {ρ : Env'} {P : R → Nat → Prop} {E : XD → Nat → Prop} {vs : List V} {ds : List D}, Post Θ W σ Q F b H P E → Ext Θ F b H F2 b2 H2 → Wd Θ F b H → EOk Θ e F2 b2 H2 σ ρ → RepL Θ F2 H2 vs ds → g ρ ds P E b2 → T vs H2) :
    tVs Θ e W fs σ H T := by
  obtain ⟨F, b, ρ, P, E, ok, m, post⟩ := h
  refine ⟨F, b, ρ, _, E, ok, m, fun rs b1 m1 vs F1 H1 x1 r1 => ?_, post.ex⟩
  obtain ⟨ds, m2, k⟩ := kept_ok r1 m1
  have x2 := fixed_ext (vs := vs) x1
  exact rule post x2 ok.wd (ok.ext x2) (k vs fun _ h => h) m2
/-- what a call from a maker's frame asks of it -/
structure KX (X : Cx) (Y : Wo) (Θ : Th) (k : Nat) (W : WX) : Prop where
  hP : X.prog = Y.P
  hw : X.w = Y.w
  hK : X.K = Y.K
  hmg : X.mg = Y.mg
  hbase : X.base = Y.base
  room : Room k X.A
  grd : X.A.guards = some []
  tk : Takes X W
theorem e_callC {x : Str} {m : List D → M R} {xs : List E} {caps : List (Str × Nat)} {ns : List Nat} {cells : List (Str × Addr)} {a : Expr} {as : List Expr} {p pos : Pos} (G : KX X Y Θ k W) (hcl : Θ.cells = some cells) (hce : caps ≠ [] → cells = X.env.cells ∧ ∀ y, X.env.scope.names.lookup y = some .cell → X.fn y = true) (hc : FnM Y (core Θ) k x m) (hg : Gl X x) (hp : plainName x = true) (h : PA X (a :: as) (tVs Θ e W (evs xs))) (hs : (a :: as).all notStar = true)
    (hN : ∀ p ∈ caps, X.N[p.2]? = some p.1 ∧ X.env.scope.names.lookup p.1 = some .cell) (hfr : ∀ n ∈ ns, ∀ p b s, Θ.lam n = some (p, b, s) → ∀ y ∈ s.names, y.2 = .free → y.1 ∈ caps.map (·.1)) :
    PE X (.Call (.Name x p) (a :: as) [] pos) (tV Θ e W (fun ρ => bnd (evs xs ρ) fun rs => bnd (keptAll rs) (handC ns m caps ρ))) := by
  obtain ⟨f, hm, hk, run⟩ := call_lock hc (by rw [hcl]; exact fun z => by cases z)
  rw [List.all_cons, Bool.and_eq_true] at hs
  refine ⟨fun pins s σ H Q I hq => ?_⟩
  refine wpAny_Call_Name_kw (ld_glob I hg (by rw [G.hmg]; exact hm) ?_ (plainName_debug hp).1)
  have hq2 := args_keptR (T := fun vs H1 => ∃ (F F2 : Addr → Prop) (b b2 : Nat) (ρ : Env') (P : R → Nat → Prop) (E : XD → Nat → Prop) (ds : List D), Post Θ W σ Q F b H P E ∧ Ext Θ F b H F2 b2 H1 ∧ Wd Θ F b H ∧ EOk Θ e F2 b2 H1 σ ρ ∧ RepL Θ F2 H1 vs ds ∧ handC ns m caps ρ ds P E b2) hq
    fun {F F2 b b2 H2 ρ P E vs ds} post x w ok rl mm => ⟨F, F2, b, b2, ρ, P, E, ds, post, x, w, ok, rl, mm⟩
  refine PySem.W.callWith_K (h₀ := X.base) I.ok.mod.kin (by rw [G.hK]; exact hk) (thn (h.run pos pins s σ H _ I hq2) fun us s1 ⟨vs, H1, I1, r, F, F2, b, b2, ρ, P, E, ds, post, x, w, ok, rl, mm⟩ => ⟨I1.kIn, ?_⟩) (starEach_ns hs.1) (plain_ns hs.2)
  unfold handC at mm
  split at mm
  · rename_i cap qc
    obtain ⟨al, hm2⟩ := mm
    obtain ⟨cs, c1, c2, c3⟩ := cells_lock I1 (fun z => (hce z).1) hN (fun z => (hce z).2) ok qc
    refine run G.hP G.hw G.hK G.hmg G.hbase G.room G.grd G.tk I1 r rl ok.wd c1 c2 c3 ((allCs_imp fun n hn => ?_).2 ds al) hm2 (fun r b' hp v F' H' x2 r' => post.ok _ _ hp _ _ _ (x.trans x2 w) (r'.base x)) fun z b' hz cls d F' H' x2 r' => post.ex z b' hz cls d F' H' (x.trans x2 w) r'
    intro pp bb ss hl y hy fre
    have q1 := hfr n hn pp bb ss hl y hy fre
    have ne : caps ≠ [] := fun z => by rw [z] at q1; cases q1
    obtain ⟨p2, m2, e2⟩ := List.mem_map.mp q1
    obtain ⟨c, q2⟩ := I1.ok.has y.1 (.inl (by rw [← e2]; exact (hN _ m2).2))
    obtain ⟨d, q3, q4⟩ := cmOf_has I1.ok.inj q2 (cap := cap) (by rw [(capOf_get qc).1]; exact q1)
    rw [← (hce ne).1] at q2 q4
    exact ⟨c, d, ⟨_, hcl, q2⟩, q3, q4⟩
  · exact mm.elim
end
end VL
end
-- V11
section
set_option Elab.async false
set_option linter.all false
set_option maxRecDepth 100000
set_option maxHeartbeats 4000000
/-! Terms and the text: the check, the theorem. -/
namespace VL
open PySem PySem.Spec PyProof.Rows
open L2 hiding St

section
variable {e : Expr}
theorem look_con {c} (h : lookE e = .con c) : ∃ j p, e = .Constant c j p := by unfold lookE at h; split at h <;> first | (cases h; done) | (cases h; exact ⟨_, _, rfl⟩)
theorem look_nm {x} (h : lookE e = .nm x) : ∃ p, e = .Name x p := by unfold lookE at h; split at h <;> first | (cases h; done) | (cases h; exact ⟨_, rfl⟩)
theorem look_bin {op a b} (h : lookE e = .bin op a b) : ∃ p, e = .BinOp a op b p := by unfold lookE at h; split at h <;> first | (cases h; done) | (cases h; exact ⟨_, rfl⟩)
theorem look_neg {a} (h : lookE e = .neg a) : ∃ p, e = .UnaryOp .USub a p := by unfold lookE at h; split at h <;> first | (cases h; done) | (cases h; exact ⟨_, rfl⟩)
theorem look_not {a} (h : lookE e = .not a) : ∃ p, e = .UnaryOp .Not a p := by unfold lookE at h; split at h <;> first | (cases h; done) | (cases h; exact ⟨_, rfl⟩)
theorem look_and {as} (h : lookE e = .and as) : ∃ p, e = .BoolOp .And as p := by unfold lookE at h; split at h <;> first | (cases h; done) | (cases h; exact ⟨_, rfl⟩)
theorem look_or {as} (h : lookE e = .or as) : ∃ p, e = .BoolOp .Or as p := by unfold lookE at h; split at h <;> first | (cases h; done) | (cases h; exact ⟨_, rfl⟩)
theorem look_ite {t a b} (h : lookE e = .ite t a b) : ∃ p, e = .IfExp t a b p := by unfold lookE at h; split at h <;> first | (cases h; done) | (cases h; exact ⟨_, rfl⟩)
theorem look_cmp {op a b} (h : lookE e = .cmp op a b) : ∃ p, e = .Compare a [op] [b] p := by unfold lookE at h; split at h <;> first | (cases h; done) | (cases h; exact ⟨_, rfl⟩)
theorem look_chain {o p a b c} (h : lookE e = .chain o p a b c) : ∃ q, e = .Compare a [o, p] [b, c] q := by unfold lookE at h; split at h <;> first | (cases h; done) | (cases h; exact ⟨_, rfl⟩)
theorem look_tup {as} (h : lookE e = .tup as) : ∃ k p, e = .Tuple as k p := by unfold lookE at h; split at h <;> first | (cases h; done) | (cases h; exact ⟨_, _, rfl⟩)
theorem look_lst {as} (h : lookE e = .lst as) : ∃ p, e = .List as p := by unfold lookE at h; split at h <;> first | (cases h; done) | (cases h; exact ⟨_, rfl⟩)
theorem look_dct {ks as} (h : lookE e = .dct ks as) : ∃ p, e = .Dict ks as p := by unfold lookE at h; split at h <;> first | (cases h; done) | (cases h; exact ⟨_, rfl⟩)
theorem look_slc {a lo hi} (h : lookE e = .slc a lo hi) : ∃ p q, e = .Subscript a (.Slice lo hi none p) q := by unfold lookE at h; split at h <;> first | (cases h; done) | (cases h; exact ⟨_, _, rfl⟩)
theorem look_sub {a i} (h : lookE e = .sub a i) : ∃ q, e = .Subscript a i q := by unfold lookE at h; split at h <;> first | (cases h; done) | (cases h; exact ⟨_, rfl⟩)
theorem look_att {a f ln} (h : lookE e = .att a f ln) : ∃ q, e = .Attribute a f q := by unfold lookE at h; split at h <;> first | (cases h; done) | (cases h; exact ⟨_, rfl⟩)
theorem look_call {x as} (h : lookE e = .call x as) : ∃ p q, e = .Call (.Name x p) as [] q := by unfold lookE at h; split at h <;> first | (cases h; done) | (cases h; exact ⟨_, _, rfl⟩)
theorem look_meth {a f s as} (h : lookE e = .meth a f s as) : ∃ ap q, e = .Call (.Attribute a f ap) as [] q ∧ s = (ap.endLine == q.line) := by unfold lookE at h; split at h <;> first | (cases h; done) | (cases h; exact ⟨_, _, rfl, rfl⟩)
theorem look_lam {x} (h : lookE e = .lam x) : e = x ∧ ∃ a b c d, x = .Lambda a b c d := by unfold lookE at h; split at h <;> first | (cases h; done) | (cases h; exact ⟨rfl, _, _, _, _, rfl⟩)
theorem look_comp {a t i fs s} (h : lookE e = .comp a t i fs s) : ∃ q, e = .ListComp a [⟨t, i, fs, 0⟩] s q := by unfold lookE at h; split at h <;> first | (cases h; done) | (cases h; exact ⟨_, rfl⟩)
end
/-! ### the check -/
/-- whether two texts are the same (of few forms; n: how deep) -/
def eqL (f : Expr → Expr → Bool) : List Expr → List Expr → Bool
  | [], [] => true
  | a :: as, b :: bs => f a b && eqL f as bs
  | _, _ => false
def eqE : Nat → Expr → Expr → Bool
  | 0, _, _ => false
  | n + 1, a, b => match a, b with
    | .Constant c k p, .Constant c' k' p' => decide (c = c') && decide (k = k') && decide (p = p')
    | .Name x p, .Name x' p' => decide (x = x') && decide (p = p')
    | .Call f as [] p, .Call f' as' [] p' => eqE n f f' && eqL (eqE n) as as' && decide (p = p')
    | .Tuple as k p, .Tuple as' k' p' => eqL (eqE n) as as' && decide (k = k') && decide (p = p')
    | .List as p, .List as' p' => eqL (eqE n) as as' && decide (p = p')
    | .Attribute x f p, .Attribute x' f' p' => eqE n x x' && decide (f = f') && decide (p = p')
    | .Subscript x i p, .Subscript x' i' p' => eqE n x x' && eqE n i i' && decide (p = p')
    | .BinOp x o y p, .BinOp x' o' y' p' => eqE n x x' && decide (o = o') && eqE n y y' && decide (p = p')
    | .UnaryOp o x p, .UnaryOp o' x' p' => decide (o = o') && eqE n x x' && decide (p = p')
    | _, _ => false
theorem eqL_ok {f : Expr → Expr → Bool} (h : ∀ a b, f a b = true → a = b) : ∀ {as bs : List Expr}, eqL f as bs = true → as = bs
  | [], [], _ => rfl
  | [], _ :: _, e => by cases e
  | _ :: _, [], e => by cases e
  | a :: as, b :: bs, e => by
    have e' := Bool.and_eq_true_iff.mp e
    rw [h a b e'.1, eqL_ok h e'.2]
theorem eqE_ok : ∀ (n : Nat) (a b : Expr), eqE n a b = true → a = b
  | 0, _, _, h => by cases h
  | n + 1, a, b, h => by
    have ih := eqE_ok n
    unfold eqE at h
    split at h <;> try simp only [Bool.and_eq_true, decide_eq_true_eq] at h
    · obtain ⟨⟨rfl, rfl⟩, rfl⟩ := h; rfl
    · obtain ⟨rfl, rfl⟩ := h; rfl
    · obtain ⟨⟨h1, h2⟩, rfl⟩ := h; rw [ih _ _ h1, eqL_ok ih h2]
    · obtain ⟨⟨h1, rfl⟩, rfl⟩ := h; rw [eqL_ok ih h1]
    · obtain ⟨h1, rfl⟩ := h; rw [eqL_ok ih h1]
    · obtain ⟨⟨h1, rfl⟩, rfl⟩ := h; rw [ih _ _ h1]
    · obtain ⟨⟨h1, h2⟩, rfl⟩ := h; rw [ih _ _ h1, ih _ _ h2]
    · obtain ⟨⟨⟨h1, rfl⟩, h2⟩, rfl⟩ := h; rw [ih _ _ h1, ih _ _ h2]
    · obtain ⟨⟨rfl, h1⟩, rfl⟩ := h; rw [ih _ _ h1]
    · cases h
/-- no parameters at all -/
def noPar : Arguments → Bool
  | ⟨[], [], none, [], [], none, []⟩ => true
  | _ => false
theorem noPar_ok {a : Arguments} (h : noPar a = true) : a = ⟨[], [], none, [], [], none, []⟩ := by
  unfold noPar at h
  split at h
  · rfl
  · cases h
/-- what stands fast through a check: fields, classes, gcd; mode 0: a frame without cells of its own, 2: one that makes lambdas, 1: a comprehension in it; lam: the lambdas' texts -/
structure Pr where
  flds : List Str
  ins : List Str
  gcd : Bool
  mode : Nat := 0
  lam : Nat → Option (Arguments × Expr × Scope) := fun _ => none
def Pr.blk (p : Pr) : Pr := { p with mode := min p.mode 1 }
def eqT (o : Option (Arguments × Expr × Scope)) (b : Expr) (s : Scope) : Bool := match o with
  | some (a, b', s') => noPar a && eqE 12 b b' && decide (s = s')
  | none => false
/-- what a lambda captures is among the names -/
def capB (ys : List Str) : Option (Arguments × Expr × Scope) → Bool
  | some (_, _, s) => s.names.all fun y => !decide (y.2 = .free) || decide (y.1 ∈ ys)
  | none => false
def conB : D → Const → Bool
  | .non, .none => true
  | .bl a, .bool b => decide (a = b)
  | .int i, .int j => decide (i = j)
  | .str x, .str y => decide (x = y)
  | _, _ => false
def tnB (ins : List Str) : TyN → Bool
  | .ty n => decide (n ∈ tyNames)
  | .cls c => decide (c ∈ ins)
def tyB (ins : List Str) (sc : Scope) (ts : List TyN) (t : Expr) : Bool := match ts with
  | [t1] => (tnB ins t1 && tyExpr sc t1 t) || (match lookE t with
    | .tup as => decide (as.length = 1) && tnB ins t1 && ([t1].zip as).all fun p => tyExpr sc p.1 p.2
    | _ => false)
  | ts => match lookE t with
    | .tup as => decide (ts.length = as.length) && decide (ts.length ≤ 30) && ts.all (tnB ins) && (ts.zip as).all fun p => tyExpr sc p.1 p.2
    | _ => false
def isTup : Expr → Bool
  | .Tuple .. => true
  | _ => false
/-- the arguments of a walk's source -/
def wArgs (ik : Ik) (sc : Scope) (tg iter : Expr) : Option (List Expr) := match ik with
  | .seq => if notStar iter = true then some [iter] else none
  | .rng => match lookE iter with
    | .call x [a] => if (decide (x = "range") && glB sc x && notStar a) = true then some [a] else none
    | _ => none
  | .rng2 => match lookE iter with
    | .call x [a, b] => if (decide (x = "range") && glB sc x && notStar a && notStar b) = true then some [a, b] else none
    | _ => none
  | .enum => match lookE iter with
    | .call x [a] => if (decide (x = "enumerate") && glB sc x && notStar a && isTup tg) = true then some [a] else none
    | _ => none
  | .zip => match lookE iter with
    | .call x [a, b] => if (decide (x = "zip") && glB sc x && notStar a && notStar b && isTup tg) = true then some [a, b] else none
    | _ => none
def ifOf : List Expr → Option (Option Expr)
  | [] => some none
  | [c] => some (some c)
  | _ => none
mutual
def chk : E → Pr → List Str → Scope → Expr → Bool
  | .lit d, p, N, _, a => (match lookE a with
    | .con c => conB d c
    | _ => false)
  | .var i, p, N, sc, a => (match lookE a with
    | .nm x => decide (N[i]? = some x) && visB sc x && plainName x
    | _ => false)
  | .glo x _, p, N, sc, a => (match lookE a with
    | .nm y => decide (x = y) && glB sc x && plainName x
    | _ => false)
  | .bin op x y, p, N, sc, a => (match lookE a with
    | .bin o a b => decide (op = o) && chk x p N sc a && chk y p N sc b
    | _ => false)
  | .neg x, p, N, sc, a => (match lookE a with
    | .neg a => chk x p N sc a
    | _ => false)
  | .not x, p, N, sc, a => (match lookE a with
    | .not a => chk x p N sc a
    | _ => false)
  | .and xs, p, N, sc, a => (match lookE a with
    | .and as => !as.isEmpty && chks xs p N sc as
    | _ => false)
  | .or xs, p, N, sc, a => (match lookE a with
    | .or as => !as.isEmpty && chks xs p N sc as
    | _ => false)
  | .ite t x y, p, N, sc, a => (match lookE a with
    | .ite c a b => chk t p N sc c && chk x p N sc a && chk y p N sc b
    | _ => false)
  | .cmp op x y, p, N, sc, a => (match lookE a with
    | .cmp o a b => decide (op = o) && chk x p N sc a && chk y p N sc b && notSet b
    | _ => false)
  | .chain o q x y z, p, N, sc, a => (match lookE a with
    | .chain o' q' a b c => decide (o = o') && decide (q = q') && chk x p N sc a && chk y p N sc b && chk z p N sc c && notSet c
    | _ => false)
  | .tup xs, p, N, sc, a => (match lookE a with
    | .tup as => chks xs p N sc as
    | _ => false)
  | .lst xs, p, N, sc, a => (match lookE a with
    | .lst as => chks xs p N sc as
    | _ => false)
  | .dct ks xs, p, N, sc, a => (match lookE a with
    | .dct keys as => chks xs p N sc as && keysB ks keys && decide (ks.Nodup) && decide (keys.length ≤ 15) && decide (ks.length = xs.length)
    | _ => false)
  | .idx x y, p, N, sc, a => (match lookE a with
    | .sub a i => chk x p N sc a && chk y p N sc i && notSlice i
    | _ => false)
  | .key x k, p, N, sc, a => (match lookE a with
    | .sub a i => chk x p N sc a && (match lookE i with
      | .con (.str y) => decide (k = y)
      | _ => false)
    | _ => false)
  | .slc x lo hi, p, N, sc, a => (match lookE a with
    | .slc a lo' hi' => chk x p N sc a && chko lo p N sc lo' && chko hi p N sc hi'
    | _ => false)
  | .fld x f, p, N, sc, a => (match lookE a with
    | .att a g _ => decide (f = g) && chk x p N sc a && attrPlain a && decide (f ∈ p.flds)
    | _ => false)
  | .call x _ xs, p, N, sc, a => (match lookE a with
    | .call y as => decide (p.mode = 0) && decide (x = y) && glB sc x && plainName x && chks xs p N sc as
    | _ => false)
  | .bi f x none, p, N, sc, a => (match lookE a with
    | .call y [a1] => decide (y = f.nm) && decide (f ≠ .gcd ∧ f ≠ .bits) && glB sc y && notStar a1 && chk x p N sc a1
    | .meth a1 g same [] => decide (f = .bits) && decide (g = "bit_length") && same && attrPlain a1 && chk x p N sc a1
    | _ => false)
  | .bi f x (some y), p, N, sc, a => (match lookE a with
    | .call g [a1, a2] => decide (f = .gcd) && decide (g = "gcd") && p.gcd && glB sc g && notStar a1 && notStar a2 && chk x p N sc a1 && chk y p N sc a2
    | _ => false)
  | .isi x ts, p, N, sc, a => (match lookE a with
    | .call g [a1, t] => decide (g = "isinstance") && glB sc g && notStar a1 && chk x p N sc a1 && tyB p.ins sc ts t
    | _ => false)
  | .comp elt tg ik its ifs own, p, N, sc, a => (match lookE a with
    | .comp elt' tg' iter ifs' scope => blkC N sc scope own && (tg.ix.all fun i => decide (i ∈ own.map (·.2))) && tgB N (relS scope sc) scope tg tg' && notSet iter && chk elt p.blk N (relS scope sc) elt' &&
      (match wArgs ik sc tg' iter with
        | some as => chks its p N sc as
        | none => false) &&
      (match ifOf ifs' with
        | some o => chko ifs p.blk N (relS scope sc) o
        | none => false)
    | _ => false)
  | .lam n, p, N, sc, a => (match lookE a with
    | .lam (.Lambda par b s _) => decide (p.mode = 2) && noPar par && eqT (p.lam n) b s && LamX.lamSB sc s
    | _ => false)
  | .callC x _ xs caps ns, p, N, sc, a => (match lookE a with
    | .call y as => decide (p.mode ≠ 0) && (decide (p.mode = 2) || caps.isEmpty) && decide (x = y) && glB sc x && plainName x && chks xs p N sc as && !as.isEmpty && (caps.all fun c => decide (N[c.2]? = some c.1) && decide (sc.names.lookup c.1 = some .cell)) && ns.all fun n => capB (caps.map (·.1)) (p.lam n)
    | _ => false)
def chks : List E → Pr → List Str → Scope → List Expr → Bool
  | [], _, _, _, [] => true
  | x :: xs, p, N, sc, a :: as => chk x p N sc a && notStar a && chks xs p N sc as
  | _, _, _, _, _ => false
def chko : Option E → Pr → List Str → Scope → Option Expr → Bool
  | none, _, _, _, none => true
  | some x, p, N, sc, some a => chk x p N sc a
  | _, _, _, _, _ => false
end
end VL
end
-- V12
section
set_option Elab.async false
set_option linter.all false
set_option maxRecDepth 100000
set_option maxHeartbeats 4000000
/-! Terms and the text: the theorem. -/
namespace VL
open PySem PySem.Spec PyProof.Rows
open L2 hiding St
/-- the check's lists are the law's -/
structure PrOk (p : Pr) (Θ : Th) (X : Cx) : Prop where
  f : p.flds = Θ.flds
  i : p.ins = Θ.ins
  g : p.gcd = true → Θ.gcdOn = true
  m0 : p.mode = 0 → Θ.cells = none
  m1 : p.mode ≠ 0 → ∃ cs, Θ.cells = some cs
  m2 : p.mode = 2 → (∃ c P, MkX X Θ c P) ∧ ∀ y, X.env.scope.names.lookup y = some .cell → X.fn y = true
  lm : p.mode ≠ 0 → ∀ n t, p.lam n = some t → Θ.lam n = some t
theorem PrOk.blk {p : Pr} {Θ : Th} {X Z : Cx} (k : PrOk p Θ X) : PrOk p.blk Θ Z where
  f := k.f
  i := k.i
  g := k.g
  m0 := fun h => k.m0 (by
    have : min p.mode 1 = 0 := h
    omega)
  m1 := fun h => k.m1 (fun z => h (by show min p.mode 1 = 0; omega))
  m2 := fun h => by
    have : min p.mode 1 = 2 := h
    omega
  lm := fun h => k.lm (fun z => h (by show min p.mode 1 = 0; omega))
def gPart (ifs : List Expr) : Option Expr → Prop
  | none => ifs = []
  | some c => ifs = [c]
theorem ifOf_ok {fs : List Expr} {o : Option Expr} (h : ifOf fs = some o) : gPart fs o := by
  unfold ifOf at h
  split at h <;> first | (cases h; rfl) | cases h
theorem wseq {sc : Scope} {tg iter : Expr} {as : List Expr} (h : wArgs .seq sc tg iter = some as) : as = [iter] ∧ notStar iter = true := by
  unfold wArgs at h
  dsimp only at h
  split at h
  · rename_i q; cases h; exact ⟨rfl, q⟩
  · cases h
theorem conB_ok {X : Cx} {Θ : Th} {d : D} {c : Const} {j : Nat} {p : Pos} (h : conB d c = true) : ∃ v, PE X (.Constant c j p) (tC v) ∧ ∀ F H, Rep Θ F H v d := by
  unfold conB at h
  split at h
  · exact ⟨_, pe_non, fun _ _ => .non⟩
  · rw [decide_eq_true_eq] at h; subst h; exact ⟨_, pe_bl, fun _ _ => .bl _⟩
  · rw [decide_eq_true_eq] at h; subst h; exact ⟨_, pe_int, fun _ _ => .int _⟩
  · rw [decide_eq_true_eq] at h; subst h; exact ⟨_, pe_str, fun _ _ => .str _⟩
  · cases h
theorem tnB_ok {p : Pr} {Θ : Th} {X : Cx} (pk : PrOk p Θ X) {t : TyN} (h : tnB p.ins t = true) : tnOk Θ t = true := by
  cases t with
  | ty n => exact h
  | cls c => rw [pk.i] at h; exact h
section
variable {X : Cx} {Y : Wo} {Θ : Th} {k : Nat} {N : List Str} {sc : Scope} {W : WX} {e : En}
theorem isi_pe {p : Pr} {a t : Expr} {ts : List TyN} {q1 q2 : Pos} {f : Env' → M R} (pk : PrOk p Θ X) (G : XG X Y Θ k N sc W) (hg : glB sc "isinstance" = true) (h1 : PE X a (tV Θ e W f)) (hs : notStar a = true) (ht : tyB p.ins sc ts t = true) :
    PE X (.Call (.Name "isinstance" q1) [a, t] [] q2) (tV Θ e W fun ρ => bnd (f ρ) (isiM ts)) := by
  unfold tyB at ht
  split at ht
  · rename_i t1
    rw [Bool.or_eq_true] at ht
    rcases ht with ht | ht
    · rw [Bool.and_eq_true] at ht
      exact e_isi1 G hg h1 hs (tnB_ok pk ht.1) ht.2
    · split at ht
      · rename_i as heq
        obtain ⟨kk, pp, rfl⟩ := look_tup heq
        simp only [Bool.and_eq_true, decide_eq_true_eq] at ht
        exact e_isiT G hg h1 hs (by simp [tnB_ok pk ht.1.2]) (by simp [ht.1.1]) ht.2 (by simp)
      · cases ht
  · rename_i ts' hne
    split at ht
    · rename_i as heq
      obtain ⟨kk, pp, rfl⟩ := look_tup heq
      simp only [Bool.and_eq_true, decide_eq_true_eq] at ht
      obtain ⟨⟨⟨h2, h3⟩, h4⟩, h5⟩ := ht
      exact e_isiT G hg h1 hs (List.all_eq_true.mpr fun t m => tnB_ok pk (List.all_eq_true.mp h4 t m)) h2 h5 h3
    · cases ht
/-- what is shown of a term -/
def SndE (p : Pr) (x : E) : Prop := ∀ {X : Cx} {Y : Wo} {Θ : Th} {k : Nat} {N : List Str} {sc : Scope} {W : WX} {e : En} {a : Expr}, PrOk p Θ X → XG X Y Θ k N sc W → chk x p N sc a = true → CallsOk Y (core Θ) k x → PE X a (tV Θ e W (ev x)) ∧ PT X a (tVt Θ e W (evB (ev x)))
structure LsOk (X : Cx) (Θ : Th) (e : En) (W : WX) (xs : List E) (as : List Expr) : Prop where
  pa : PA X as (tVs Θ e W (evs xs))
  ns : as.all notStar = true
  ln : xs.length = as.length
  aa : ∀ pos, as ≠ [] → PE X (.BoolOp .And as pos) (tV Θ e W (evA xs)) ∧ PW X (.BoolOp .And as pos) (tVt Θ e W (evB (evA xs)))
  oo : ∀ pos, as ≠ [] → PE X (.BoolOp .Or as pos) (tV Θ e W (evO xs)) ∧ PW X (.BoolOp .Or as pos) (tVt Θ e W (evB (evO xs)))
  pp : ∀ pos ks keys, keysB ks keys = true → ks.length = xs.length → PPs X pos keys as (trsOf Θ e W ks xs)
  on : ∀ a, as = [a] → ∃ x, xs = [x] ∧ PE X a (tV Θ e W (ev x))
def SndL (p : Pr) (xs : List E) : Prop := ∀ {X : Cx} {Y : Wo} {Θ : Th} {k : Nat} {N : List Str} {sc : Scope} {W : WX} {e : En} {as : List Expr}, PrOk p Θ X → XG X Y Θ k N sc W → chks xs p N sc as = true → CallsOks Y (core Θ) k xs → LsOk X Θ e W xs as
def SndO (p : Pr) (x : Option E) : Prop := ∀ {X : Cx} {Y : Wo} {Θ : Th} {k : Nat} {N : List Str} {sc : Scope} {W : WX} {e : En} {a : Option Expr}, PrOk p Θ X → XG X Y Θ k N sc W → chko x p N sc a = true → CallsOko Y (core Θ) k x → PO X a (tVo Θ e W (evo x)) ∧ ∀ fs, gPart fs a → PTs X fs (tVt Θ e W (evt x))
theorem snd_nil (p : Pr) : SndL p [] := fun {X Y Θ k N sc W e as} pk G h c => by
  cases as with
  | cons => cases h
  | nil =>
    refine ⟨a_nil, rfl, rfl, fun _ z => absurd rfl z, fun _ z => absurd rfl z, fun pos ks keys hk hl => ?_, fun a z => by cases z⟩
    cases ks with
    | cons => cases hl
    | nil =>
      cases keys with
      | nil => exact pps_nil
      | cons o r => cases o <;> cases hk
theorem snd_cons {p : Pr} {x : E} {xs : List E} (h1 : SndE p x) (h2 : SndL p xs) : SndL p (x :: xs) := fun {X Y Θ k N sc W e as} pk G h c => by
  cases as with
  | nil => cases h
  | cons a as =>
    unfold chks at h
    simp only [Bool.and_eq_true] at h
    obtain ⟨⟨h3, h4⟩, h5⟩ := h
    obtain ⟨q1, q2⟩ := h1 (e := e) pk G h3 c.1
    have L := h2 (e := e) pk G h5 c.2
    refine ⟨a_cons q1 L.pa h4, by rw [List.all_cons, h4, L.ns]; rfl, by rw [List.length_cons, List.length_cons, L.ln], fun pos _ => ?_, fun pos _ => ?_, fun pos ks keys hk hl => ?_, fun a' z => ?_⟩
    · cases as with
      | nil =>
        cases xs with
        | nil => exact ⟨e_and1 q1, pw_and1 q2⟩
        | cons => exact absurd L.ln (by simp)
      | cons a2 as =>
        cases xs with
        | nil => exact absurd L.ln (by simp)
        | cons x2 xs =>
          obtain ⟨r1, r2⟩ := L.aa pos (by simp)
          exact ⟨e_and q1 r1, t_and q2 r2⟩
    · cases as with
      | nil =>
        cases xs with
        | nil => exact ⟨e_and1 q1, pw_or1 q2⟩
        | cons => exact absurd L.ln (by simp)
      | cons a2 as =>
        cases xs with
        | nil => exact absurd L.ln (by simp)
        | cons x2 xs =>
          obtain ⟨r1, r2⟩ := L.oo pos (by simp)
          exact ⟨e_or q1 r1, t_or q2 r2⟩
    · cases ks with
      | nil => cases hl
      | cons y ys =>
        unfold keysB at hk
        split at hk
        · rename_i e1; cases e1
        · rename_i x0 xs0 y0 j0 p0 es0 e1
          cases e1
          rw [Bool.and_eq_true, decide_eq_true_eq] at hk
          obtain ⟨rfl, hk⟩ := hk
          exact pps_cons pe_str q1 (L.pp pos _ _ hk (by simpa using hl))
        · cases hk
    · cases z
      cases xs with
      | nil => exact ⟨x, rfl, q1⟩
      | cons => exact absurd L.ln (by simp)
theorem snd_none (p : Pr) : SndO p none := fun {X Y Θ k N sc W e a} pk G h c => by
  cases a with
  | some => cases h
  | none =>
    refine ⟨o_none, fun fs hf => ?_⟩
    cases (show fs = [] from hf)
    exact ⟨fun pins s σ H Q I q => by
      obtain ⟨F, b, ρ, P, E, ok, m, p1, p2⟩ := q
      exact pts_nil.run pins s σ H Q I (p1 _ _ m _ _ .refl)⟩
theorem snd_some {p : Pr} {x : E} (h1 : SndE p x) : SndO p (some x) := fun {X Y Θ k N sc W e a} pk G h c => by
  cases a with
  | none => cases h
  | some a =>
    obtain ⟨q1, q2⟩ := h1 (e := e) pk G h c
    refine ⟨o_some q1, fun fs hf => ?_⟩
    cases (show fs = [a] from hf)
    exact ⟨fun pins s σ H Q I q => (pts_one q2).run pins s σ H Q I q⟩
end
end VL
end
-- V13
section
set_option Elab.async false
set_option linter.all false
set_option maxRecDepth 100000
set_option maxHeartbeats 4000000
/-! Terms and the text: each form, the theorem. -/
namespace VL
open PySem PySem.Spec PyProof.Rows
open L2 hiding St
section
variable {X : Cx} {Y : Wo} {Θ : Th} {k : Nat} {N : List Str} {sc : Scope} {W : WX} {e : En}
theorem notSet_fold {a : Expr} {env : Env} (h : notSet a = true) (x : Value) : foldedSetIterable a env x = pure x := by
  cases a <;> first | rfl | cases h
theorem both {a : Expr} {f : Env' → M R} (h : PE X a (tV Θ e W f)) (hp : plainTest a = true) : PE X a (tV Θ e W f) ∧ PT X a (tVt Θ e W (evB f)) := ⟨h, t_val h hp⟩
theorem w_all {p : Pr} {N : List Str} {ik : Ik} {tg iter : Expr} {as : List Expr} {its : List E} (G : XG X Y Θ k N sc W) (hw : wArgs ik sc tg iter = some as) (L : LsOk X Θ e W its as) : PI X tg iter (iW Θ ik (tVs Θ e W (evs its))) := by
  cases ik with
  | seq =>
    obtain ⟨rfl, hs⟩ := wseq hw
    obtain ⟨x, rfl, h⟩ := L.on _ rfl
    exact w_seq G h
  | rng =>
    unfold wArgs at hw
    dsimp only at hw
    split at hw
    · rename_i x a heq
      obtain ⟨q1, q2, rfl⟩ := look_call heq
      split at hw
      · rename_i h
        cases hw
        simp only [Bool.and_eq_true, decide_eq_true_eq] at h
        obtain ⟨⟨rfl, h2⟩, h3⟩ := h
        obtain ⟨x, rfl, h⟩ := L.on _ rfl
        exact w_rng1 G h2 h3 L.pa
      · cases hw
    · cases hw
  | rng2 =>
    unfold wArgs at hw
    dsimp only at hw
    split at hw
    · rename_i x a b heq
      obtain ⟨q1, q2, rfl⟩ := look_call heq
      split at hw
      · rename_i h
        cases hw
        simp only [Bool.and_eq_true, decide_eq_true_eq] at h
        obtain ⟨⟨⟨rfl, h2⟩, h3⟩, h4⟩ := h
        exact w_rng2 G h2 h3 h4 L.pa
      · cases hw
    · cases hw
  | enum =>
    unfold wArgs at hw
    dsimp only at hw
    split at hw
    · rename_i x a heq
      obtain ⟨q1, q2, rfl⟩ := look_call heq
      split at hw
      · rename_i h
        cases hw
        simp only [Bool.and_eq_true, decide_eq_true_eq] at h
        obtain ⟨⟨⟨rfl, h2⟩, h3⟩, h4⟩ := h
        cases tg <;> try cases h4
        exact w_enum G h2 h3 L.pa
      · cases hw
    · cases hw
  | zip =>
    unfold wArgs at hw
    dsimp only at hw
    split at hw
    · rename_i x a b heq
      obtain ⟨q1, q2, rfl⟩ := look_call heq
      split at hw
      · rename_i h
        cases hw
        simp only [Bool.and_eq_true, decide_eq_true_eq] at h
        obtain ⟨⟨⟨⟨rfl, h2⟩, h3⟩, h5⟩, h4⟩ := h
        cases tg <;> try cases h4
        exact w_zip G h2 h3 h5 L.pa
      · cases hw
    · cases hw
end
section
variable {p : Pr}
theorem snd_lit {d : D} : SndE p (.lit d) := fun {X Y Θ k N sc W e a} pk G h c => by
  unfold chk at h
  split at h
  · rename_i c' heq
    obtain ⟨j, q, rfl⟩ := look_con heq
    obtain ⟨v, h1, h2⟩ := conB_ok (X := X) (Θ := Θ) (j := j) (p := q) h
    exact both (peI h1 fun σ H Q q => tV_lit h2 σ H Q q) rfl
  · cases h
theorem snd_var {i : Nat} : SndE p (.var i) := fun {X Y Θ k N sc W e a} pk G h c => by
  unfold chk at h
  split at h
  · rename_i x heq
    obtain ⟨q, rfl⟩ := look_nm heq
    simp only [Bool.and_eq_true, decide_eq_true_eq] at h
    exact both (v_var G h.1.1 h.1.2 h.2) rfl
  · cases h
theorem snd_glo {x : Str} {d : D} : SndE p (.glo x d) := fun {X Y Θ k N sc W e a} pk G h c => by
  unfold chk at h
  split at h
  · rename_i y heq
    obtain ⟨q, rfl⟩ := look_nm heq
    simp only [Bool.and_eq_true, decide_eq_true_eq] at h
    obtain ⟨⟨rfl, h2⟩, h3⟩ := h
    obtain ⟨u, v, h4, h5, h6⟩ := c
    exact both (peI (pe_glob (gl_of (by rw [G.hs]; exact h2)) (by rw [G.hmg]; exact h4) h5 (plainName_debug h3).1) fun σ H Q q => tV_lit (h6 Θ rfl rfl) σ H Q q) rfl
  · cases h
theorem snd_bin {op : Operator} {x y : E} (h1 : SndE p x) (h2 : SndE p y) : SndE p (.bin op x y) := fun {X Y Θ k N sc W e a} pk G h c => by
  unfold chk at h
  split at h
  · rename_i o a' b' heq
    obtain ⟨q, rfl⟩ := look_bin heq
    simp only [Bool.and_eq_true, decide_eq_true_eq] at h
    obtain ⟨⟨rfl, h3⟩, h4⟩ := h
    exact both (e_bin G (h1 pk G h3 c.1).1 (h2 pk G h4 c.2).1) rfl
  · cases h
theorem snd_neg {x : E} (h1 : SndE p x) : SndE p (.neg x) := fun {X Y Θ k N sc W e a} pk G h c => by
  unfold chk at h
  split at h
  · rename_i a' heq
    obtain ⟨q, rfl⟩ := look_neg heq
    exact both (e_neg (h1 pk G h c).1) rfl
  · cases h
theorem snd_not {x : E} (h1 : SndE p x) : SndE p (.not x) := fun {X Y Θ k N sc W e a} pk G h c => by
  unfold chk at h
  split at h
  · rename_i a' heq
    obtain ⟨q, rfl⟩ := look_not heq
    obtain ⟨r1, r2⟩ := h1 (e := e) pk G h c
    exact ⟨e_not r1, t_not r2⟩
  · cases h
theorem snd_and {xs : List E} (h1 : SndL p xs) : SndE p (.and xs) := fun {X Y Θ k N sc W e a} pk G h c => by
  unfold chk at h
  split at h
  · rename_i as heq
    obtain ⟨q, rfl⟩ := look_and heq
    rw [Bool.and_eq_true] at h
    obtain ⟨r1, r2⟩ := (h1 (e := e) pk G h.2 c).aa q (fun z => by subst z; cases h.1)
    exact ⟨r1, r2.pt⟩
  · cases h
theorem snd_or {xs : List E} (h1 : SndL p xs) : SndE p (.or xs) := fun {X Y Θ k N sc W e a} pk G h c => by
  unfold chk at h
  split at h
  · rename_i as heq
    obtain ⟨q, rfl⟩ := look_or heq
    rw [Bool.and_eq_true] at h
    obtain ⟨r1, r2⟩ := (h1 (e := e) pk G h.2 c).oo q (fun z => by subst z; cases h.1)
    exact ⟨r1, r2.pt⟩
  · cases h
theorem snd_ite {t x y : E} (h0 : SndE p t) (h1 : SndE p x) (h2 : SndE p y) : SndE p (.ite t x y) := fun {X Y Θ k N sc W e a} pk G h c => by
  unfold chk at h
  split at h
  · rename_i t' a' b' heq
    obtain ⟨q, rfl⟩ := look_ite heq
    simp only [Bool.and_eq_true] at h
    obtain ⟨q0, r0⟩ := h0 (e := e) pk G h.1.1 c.1
    obtain ⟨q1, r1⟩ := h1 (e := e) pk G h.1.2 c.2.1
    obtain ⟨q2, r2⟩ := h2 (e := e) pk G h.2 c.2.2
    exact ⟨e_ite r0 q1 q2, t_ite r0 r1 r2⟩
  · cases h
theorem snd_cmp {op : CmpOp} {x y : E} (h1 : SndE p x) (h2 : SndE p y) : SndE p (.cmp op x y) := fun {X Y Θ k N sc W e a} pk G h c => by
  unfold chk at h
  split at h
  · rename_i o a' b' heq
    obtain ⟨q, rfl⟩ := look_cmp heq
    simp only [Bool.and_eq_true, decide_eq_true_eq] at h
    obtain ⟨⟨⟨rfl, h3⟩, h4⟩, h5⟩ := h
    have r1 := (h1 (e := e) pk G h3 c.1).1
    have r2 := (h2 (e := e) pk G h4 c.2).1
    exact ⟨e_cmp G r1 r2 h5, t_cmp G r1 r2 h5⟩
  · cases h
theorem snd_chain {o o' : CmpOp} {x y z : E} (h1 : SndE p x) (h2 : SndE p y) (h3 : SndE p z) : SndE p (.chain o o' x y z) := fun {X Y Θ k N sc W e a} pk G h c => by
  unfold chk at h
  split at h
  · rename_i o1 o2 a' b' c' heq
    obtain ⟨q, rfl⟩ := look_chain heq
    simp only [Bool.and_eq_true, decide_eq_true_eq] at h
    obtain ⟨⟨⟨⟨⟨rfl, rfl⟩, h4⟩, h5⟩, h6⟩, h7⟩ := h
    have r1 := (h1 (e := e) pk G h4 c.1).1
    have r2 := (h2 (e := e) pk G h5 c.2.1).1
    have r3 := (h3 (e := e) pk G h6 c.2.2).1
    exact ⟨e_chain G r1 r2 r3 h7, t_chain G r1 r2 r3 h7⟩
  · cases h
theorem snd_tup {xs : List E} (h1 : SndL p xs) : SndE p (.tup xs) := fun {X Y Θ k N sc W e a} pk G h c => by
  unfold chk at h
  split at h
  · rename_i as heq
    obtain ⟨kk, q, rfl⟩ := look_tup heq
    exact both (e_tup (h1 pk G h c).pa) rfl
  · cases h
theorem snd_lst {xs : List E} (h1 : SndL p xs) : SndE p (.lst xs) := fun {X Y Θ k N sc W e a} pk G h c => by
  unfold chk at h
  split at h
  · rename_i as heq
    obtain ⟨q, rfl⟩ := look_lst heq
    exact both (e_lst (h1 pk G h c).pa) rfl
  · cases h
theorem keysB_some {ks : List Str} {keys : List (Option Expr)} (h : keysB ks keys = true) : keys.all (·.isSome) = true ∧ ks.length = keys.length := by
  induction ks generalizing keys with
  | nil =>
    cases keys with
    | nil => exact ⟨rfl, rfl⟩
    | cons o r => cases o <;> cases h
  | cons x xs ih =>
    unfold keysB at h
    split at h
    · rename_i e1; cases e1
    · rename_i e1
      cases e1
      rw [Bool.and_eq_true] at h
      obtain ⟨r1, r2⟩ := ih h.2
      exact ⟨by rw [List.all_cons, r1]; rfl, by rw [List.length_cons, List.length_cons, r2]⟩
    · cases h
theorem snd_dct {ks : List Str} {xs : List E} (h1 : SndL p xs) : SndE p (.dct ks xs) := fun {X Y Θ k N sc W e a} pk G h c => by
  unfold chk at h
  split at h
  · rename_i keys as heq
    obtain ⟨q, rfl⟩ := look_dct heq
    simp only [Bool.and_eq_true, decide_eq_true_eq] at h
    obtain ⟨⟨⟨⟨h2, h3⟩, h4⟩, h5⟩, h7⟩ := h
    have L := h1 (e := e) pk G h2 c
    obtain ⟨r1, r2⟩ := keysB_some h3
    have ln := L.ln
    cases keys with
    | cons key keys => exact both (e_dct (L.pp q ks (key :: keys) h3 h7) r1 (by omega) (fun z => by cases z) h5 h7 r2 h4) rfl
    | nil =>
      cases ks with
      | cons => cases r2
      | nil =>
        cases xs with
        | cons => cases h7
        | nil =>
          cases as with
          | cons => cases ln
          | nil =>
            refine both (peI pe_dnewK fun σ H Q q => ?_) rfl
            obtain ⟨F, b, ρ, P, E, ok, m, post⟩ := q
            intro p np
            exact post.frsD .refl ok.wd ok.wd (vs := []) (xs := []) .nil m.2 np
  · cases h
theorem snd_idx {x y : E} (h1 : SndE p x) (h2 : SndE p y) : SndE p (.idx x y) := fun {X Y Θ k N sc W e a} pk G h c => by
  unfold chk at h
  split at h
  · rename_i a' b' heq
    obtain ⟨q, rfl⟩ := look_sub heq
    simp only [Bool.and_eq_true] at h
    exact both (e_idx G (h1 pk G h.1.1 c.1).1 (h2 pk G h.1.2 c.2).1 h.2) rfl
  · cases h
theorem snd_key {x : E} {f : Str} (h1 : SndE p x) : SndE p (.key x f) := fun {X Y Θ k N sc W e a} pk G h c => by
  unfold chk at h
  split at h
  · rename_i a' b' heq
    obtain ⟨q, rfl⟩ := look_sub heq
    rw [Bool.and_eq_true] at h
    obtain ⟨h2, h3⟩ := h
    split at h3
    · rename_i y heq2
      obtain ⟨j, q2, rfl⟩ := look_con heq2
      rw [decide_eq_true_eq] at h3
      subst h3
      exact both (e_key G (h1 pk G h2 c).1) rfl
    · cases h3
  · cases h
theorem snd_slc {x : E} {lo hi : Option E} (h1 : SndE p x) (h2 : SndO p lo) (h3 : SndO p hi) : SndE p (.slc x lo hi) := fun {X Y Θ k N sc W e a} pk G h c => by
  unfold chk at h
  split at h
  · rename_i a' l' h' heq
    obtain ⟨q, q2, rfl⟩ := look_slc heq
    simp only [Bool.and_eq_true] at h
    exact both (e_slc G (h1 pk G h.1.1 c.1).1 (h2 pk G h.1.2 c.2.1).1 (h3 pk G h.2 c.2.2).1) rfl
  · cases h
theorem snd_fld {x : E} {f : Str} (h1 : SndE p x) : SndE p (.fld x f) := fun {X Y Θ k N sc W e a} pk G h c => by
  unfold chk at h
  split at h
  · rename_i a' g ln heq
    obtain ⟨q, rfl⟩ := look_att heq
    simp only [Bool.and_eq_true, decide_eq_true_eq] at h
    obtain ⟨⟨⟨rfl, h2⟩, h3⟩, h4⟩ := h
    exact both (e_fld G (h1 pk G h2 c).1 h3 (by rw [← pk.f]; exact h4)) rfl
  · cases h
theorem snd_call {x : Str} {m : List D → M R} {xs : List E} (h1 : SndL p xs) : SndE p (.call x m xs) := fun {X Y Θ k N sc W e a} pk G h c => by
  unfold chk at h
  split at h
  · rename_i y as heq
    obtain ⟨q, q2, rfl⟩ := look_call heq
    simp only [Bool.and_eq_true, decide_eq_true_eq] at h
    obtain ⟨⟨⟨⟨h0, rfl⟩, h2⟩, h3⟩, h4⟩ := h
    have L := h1 (e := e) pk G h4 c.2
    cases as with
    | nil =>
      cases xs with
      | nil => exact both (e_call0 (pk.m0 h0) G c.1 h2 h3) rfl
      | cons => exact absurd L.ln (by simp)
    | cons a as => exact both (e_call (pk.m0 h0) G c.1 h2 h3 L.pa L.ns) rfl
  · cases h
theorem snd_bi {f : Bi} {x : E} (h1 : SndE p x) : SndE p (.bi f x none) := fun {X Y Θ k N sc W e a} pk G h c => by
  unfold chk at h
  split at h
  · rename_i y a' heq
    obtain ⟨q, q2, rfl⟩ := look_call heq
    simp only [Bool.and_eq_true, decide_eq_true_eq] at h
    obtain ⟨⟨⟨⟨h2, h3⟩, h4⟩, h5⟩, h6⟩ := h
    exact both (e_bi G h2 h3 h4 (h1 pk G h6 c.1).1 h5) rfl
  · rename_i a' g s heq
    obtain ⟨ap, q2, rfl, rfl⟩ := look_meth heq
    simp only [Bool.and_eq_true, decide_eq_true_eq] at h
    obtain ⟨⟨⟨⟨rfl, rfl⟩, h4⟩, h5⟩, h6⟩ := h
    exact both (e_bits (h1 pk G h6 c.1).1 h5 h4) rfl
  · cases h
theorem snd_bi2 {f : Bi} {x y : E} (h1 : SndE p x) (h2 : SndE p y) : SndE p (.bi f x (some y)) := fun {X Y Θ k N sc W e a} pk G h c => by
  unfold chk at h
  split at h
  · rename_i g a' b' heq
    obtain ⟨q, q2, rfl⟩ := look_call heq
    simp only [Bool.and_eq_true, decide_eq_true_eq] at h
    obtain ⟨⟨⟨⟨⟨⟨⟨rfl, rfl⟩, h4⟩, h5⟩, h6⟩, h7⟩, h8⟩, h9⟩ := h
    exact both (e_gcd G (pk.g h4) h5 (h1 pk G h8 c.1).1 (h2 pk G h9 c.2).1 h6 h7) rfl
  · cases h
theorem snd_isi {x : E} {ts : List TyN} (h1 : SndE p x) : SndE p (.isi x ts) := fun {X Y Θ k N sc W e a} pk G h c => by
  unfold chk at h
  split at h
  · rename_i g a' t heq
    obtain ⟨q, q2, rfl⟩ := look_call heq
    simp only [Bool.and_eq_true, decide_eq_true_eq] at h
    obtain ⟨⟨⟨⟨rfl, h2⟩, h3⟩, h4⟩, h5⟩ := h
    exact both (isi_pe pk G h2 (h1 pk G h4 c).1 h3 h5) rfl
  · cases h
theorem snd_comp {elt : E} {tg : Tg} {ik : Ik} {its : List E} {ifs : Option E} {own : List (Str × Nat)} (h1 : SndE p.blk elt) (h2 : SndL p its) (h3 : SndO p.blk ifs) : SndE p (.comp elt tg ik its ifs own) := fun {X Y Θ k N sc W e a} pk G h c => by
  unfold chk at h
  split at h
  · rename_i elt' tg' iter ifs' scope heq
    obtain ⟨q, rfl⟩ := look_comp heq
    simp only [Bool.and_eq_true] at h
    obtain ⟨⟨⟨⟨⟨⟨b1, b2⟩, b3⟩, b4⟩, b5⟩, b6⟩, b7⟩ := h
    split at b6
    case h_2 => cases b6
    rename_i as hw
    split at b7
    case h_2 => cases b7
    rename_i o ho
    have L := h2 (e := e) pk G b6 c.2.1
    have bk : BlkOk X.N X.env.scope scope own := blkOk_by (by rw [G.hN, G.hs]; exact b1)
    have hf : ∀ (s : Shared) (H : Hp) (C : Addr) (cl : List (Str × Addr)) (fp : List Addr) (x : Str), scope.names.lookup x = some .cell → (X.blk s H scope (compEnvC scope cl C X.env) fp).fn x = true := fun s H C cl fp x z => by
      show (scope.names.lookup x == some .cell) = true
      rw [z]; rfl
    refine both (peI (pe_lc (g := gT X.K tg) G.calm (by rw [G.hN]; exact G.nd) (w_all (p := p) (N := N) G hw L) bk (fun s H C cl fp => pg_tg (G.blk s H scope C cl fp) (hf s H C cl fp) b3) (fun s H C cl fp => (h3 (e := e) pk.blk (G.blk s H scope C cl fp) b7 c.2.2).2 _ (ifOf_ok ho))
      (fun s H C cl fp => (h1 (e := e) pk.blk (G.blk s H scope C cl fp) b5 c.1).1) (notSet_fold b4)) fun σ H Q q => ?_) rfl
    show tLc _ (gT X.K tg) _ _ _ σ H Q
    rw [G.hK]
    exact comp_tV (fun i hi => by simpa using List.all_eq_true.mp b2 i hi) q
  · cases h
theorem snd_callC {x : Str} {m : List D → M R} {xs : List E} {caps : List (Str × Nat)} {ns : List Nat} (h1 : SndL p xs) : SndE p (.callC x m xs caps ns) := fun {X Y Θ k N sc W e a} pk G h c => by
  unfold chk at h
  split at h
  · rename_i y as heq
    obtain ⟨q, q2, rfl⟩ := look_call heq
    simp only [Bool.and_eq_true, Bool.or_eq_true, decide_eq_true_eq, List.all_eq_true, List.isEmpty_iff] at h
    obtain ⟨⟨⟨⟨⟨⟨⟨⟨h0, h2⟩, rfl⟩, h3⟩, h4⟩, h5⟩, h6⟩, h7⟩, h8⟩ := h
    have L := h1 (e := e) pk G h5 c.2
    obtain ⟨cs, ec⟩ := pk.m1 h0
    cases as with
    | nil => cases h6
    | cons a as =>
      refine both (e_callC (ns := ns) ⟨G.hP, G.hw, G.hKY, G.hmg, G.hbase, G.room, G.grd, G.tk⟩ ec (fun ne => ?_) c.1 (gl_of (by rw [G.hs]; exact h3)) h4 L.pa L.ns (fun p' hp => ?_) fun n hn pp b s hl y hy fre => ?_) rfl
      · have m2 : p.mode = 2 := h2.elim id fun z => absurd z ne
        obtain ⟨⟨c', P', mk⟩, f⟩ := pk.m2 m2
        rw [mk.cells] at ec
        exact ⟨(Option.some.inj ec).symm, f⟩
      · have := h7 p' hp
        rw [G.hN, G.hs]
        exact this
      · have q := h8 n hn
        unfold capB at q
        cases hl2 : p.lam n with
        | none => rw [hl2] at q; cases q
        | some t =>
          have := pk.lm h0 n t hl2
          rw [hl] at this
          cases this
          rw [hl2] at q
          simp only [List.all_eq_true, Bool.or_eq_true, Bool.not_eq_true', decide_eq_true_eq, decide_eq_false_iff_not] at q
          exact (q y hy).elim (fun z => absurd fre z) id
  · cases h
theorem eqT_ok {o : Option (Arguments × Expr × Scope)} {b : Expr} {s : Scope} {par : Arguments} (hp : noPar par = true) (h : eqT o b s = true) : o = some (par, b, s) := by
  unfold eqT at h
  split at h
  · simp only [Bool.and_eq_true, decide_eq_true_eq] at h
    obtain ⟨⟨h1, h2⟩, rfl⟩ := h
    rw [noPar_ok h1, noPar_ok hp, eqE_ok _ _ _ h2]
  · cases h
theorem snd_lam {n : Nat} : SndE p (.lam n) := fun {X Y Θ k N sc W e a} pk G h c => by
  unfold chk at h
  split at h
  · rename_i par b s pos heq
    obtain ⟨rfl, _⟩ := look_lam heq
    simp only [Bool.and_eq_true, decide_eq_true_eq] at h
    obtain ⟨⟨⟨h0, h2⟩, h3⟩, h4⟩ := h
    obtain ⟨⟨c', P', mk⟩, _⟩ := pk.m2 h0
    exact both (e_lam mk (pk.lm (by rw [h0]; decide) n _ (eqT_ok h2 h3)) (by rw [noPar_ok h2]; rfl) (LamX.lamS_by (by rw [G.hs]; exact h4))) rfl
  · cases h
mutual
theorem snd : ∀ (x : E) (p : Pr), SndE p x
  | .lit _, p => snd_lit
  | .var _, p => snd_var
  | .glo _ _, p => snd_glo
  | .bin _ x y, p => snd_bin (snd x p) (snd y p)
  | .neg x, p => snd_neg (snd x p)
  | .not x, p => snd_not (snd x p)
  | .and xs, p => snd_and (snds xs p)
  | .or xs, p => snd_or (snds xs p)
  | .ite t x y, p => snd_ite (snd t p) (snd x p) (snd y p)
  | .cmp _ x y, p => snd_cmp (snd x p) (snd y p)
  | .chain _ _ x y z, p => snd_chain (snd x p) (snd y p) (snd z p)
  | .tup xs, p => snd_tup (snds xs p)
  | .lst xs, p => snd_lst (snds xs p)
  | .dct _ xs, p => snd_dct (snds xs p)
  | .idx x y, p => snd_idx (snd x p) (snd y p)
  | .key x _, p => snd_key (snd x p)
  | .slc x lo hi, p => snd_slc (snd x p) (sndo lo p) (sndo hi p)
  | .fld x _, p => snd_fld (snd x p)
  | .call _ _ xs, p => snd_call (snds xs p)
  | .bi _ x none, p => snd_bi (snd x p)
  | .bi _ x (some y), p => snd_bi2 (snd x p) (snd y p)
  | .isi x _, p => snd_isi (snd x p)
  | .comp elt _ _ its ifs _, p => snd_comp (snd elt p.blk) (snds its p) (sndo ifs p.blk)
  | .lam _, p => snd_lam
  | .callC _ _ xs _ _, p => snd_callC (snds xs p)
theorem snds : ∀ (xs : List E) (p : Pr), SndL p xs
  | [], p => snd_nil p
  | x :: xs, p => snd_cons (snd x p) (snds xs p)
theorem sndo : ∀ (o : Option E) (p : Pr), SndO p o
  | none, p => snd_none p
  | some x, p => snd_some (snd x p)
end
end
end VL
end
-- V14
section
set_option Elab.async false
set_option linter.all false
set_option maxRecDepth 100000
set_option maxHeartbeats 4000000
/-! Statements: what they compute. -/
namespace VL
open PySem PySem.Spec PyProof.Rows
open L2 hiding St
/-- what is wanted behind a statement -/
structure KS where
  nx : Env' → Nat → Prop
  rt : R → Nat → Prop
  bk : Env' → Nat → Prop
  ct : Env' → Nat → Prop
  ex : XD → Env' → Nat → Prop
abbrev MS := Env' → KS → Nat → Prop
/-- places that are stored -/
inductive Pl where
  | var (i : Nat) | item (i : Nat) (ix : E) | key (i : Nat) (k : Str)
inductive S where
  | set (i : Nat) (x : E)
  | par (is : List Nat) (xs : List E)
  | asg (g : Pl) (x : E)
  | asgs (gs : List Pl) (x : E)
  | app (i : Nat) (x : E)
  | expr (x : E)
  | ite (t : E) (a b : List S)
  | forS (t : Tg) (ik : Ik) (its : List E) (body : List S)
  | whl (t : E) (body : List S)
  | ret (x : E) | retv (i : Nat) | retN
  | raise (c : Str) (mk : List D → M (List (Str × D))) (xs : List E)
  | pass | brk | cnt
  | frz (i : Nat)
/-- an error of a term -/
def KS.exE (K : KS) (ρ : Env') : XD → Nat → Prop := fun z b => K.ex z ρ b
def slotK (i : Nat) (ρ : Env') (K : KS) (r : R) (b : Nat) : Prop := match r.slot with
  | some s => K.nx (ρ.set i (some s)) b
  | none => False
def setM (i : Nat) (f : Env' → M R) : MS := fun ρ K b => f ρ (slotK i ρ K) (K.exE ρ) b
/-- several names take several values -/
def setR : Env' → List Nat → List R → Option Env'
  | ρ, [], [] => some ρ
  | ρ, i :: is, r :: rs => match r.slot with
    | some s => setR (ρ.set i (some s)) is rs
    | none => none
  | _, _, _ => none
def parM (is : List Nat) (fs : Env' → M (List R)) : MS := fun ρ K b => fs ρ (fun rs b' => match setR ρ is rs with
  | some ρ' => K.nx ρ' b'
  | none => False) (K.exE ρ) b
def putD (kvs : List (Str × D)) (k : Str) (d : D) : List (Str × D) :=
  if (kvs.any fun kv => decide (kv.1 = k)) = true then kvs.map (fun kv => if kv.1 = k then (kv.1, d) else kv) else kvs ++ [(k, d)]
def plM (g : Pl) (d : D) : MS := fun ρ K b => match g with
  | .var i => K.nx (ρ.set i (some (.val d))) b
  | .item i ix => match ρ[i]? with
    | some (some (.own (.lst xs))) => ev ix ρ (fun r b' => match r.d with
      | .int k => (match ixN xs.length k with
        | some j => K.nx (ρ.set i (some (.own (.lst (xs.set j d))))) b'
        | none => False)
      | _ => False) (K.exE ρ) b
    | _ => False
  | .key i k => match ρ[i]? with
    | some (some (.own (.dct kvs))) => kvs.length < 1000 ∧ K.nx (ρ.set i (some (.own (.dct (putD kvs k d))))) b
    | _ => False
def plsM : List Pl → List D → MS
  | [], [], ρ, K, b => K.nx ρ b
  | g :: gs, d :: ds, ρ, K, b => plM g d ρ { K with nx := fun ρ' b' => plsM gs ds ρ' K b' } b
  | _, _, _, _, _ => False
def tupK (gs : List Pl) (ρ : Env') (K : KS) (r : R) (b : Nat) : Prop := match r with
  | .val (.tup ds) => ds.length = gs.length ∧ plsM gs ds ρ K b
  | _ => False
def appM (i : Nat) (f : Env' → M R) : MS := fun ρ K b => match ρ[i]? with
  | some (some (.own (.lst xs))) => f ρ (fun r b' => r.kept (fun d b' => xs.length < sizeLine ∧ K.nx (ρ.set i (some (.own (.lst (xs ++ [d]))))) b') (K.exE ρ) b') (K.exE ρ) b
  | _ => False
def iteK (t : Bool) (a b : Prop) : Prop := match t with
  | true => a
  | false => b
/-- item by item -/
def forM' (step : D → MS) : List D → MS
  | [], ρ, K, b => K.nx ρ b
  | d :: ds, ρ, K, b => step d ρ { K with nx := fun ρ' b' => forM' step ds ρ' K b', ct := fun ρ' b' => forM' step ds ρ' K b', bk := K.nx } b
def valsR (ds : List D) : List R := ds.map .val
def retK (K : KS) (r : R) (b : Nat) : Prop := match r with
  | .own _ => False
  | r => K.rt r b
def retvM (i : Nat) : MS := fun ρ K b => match ρ[i]? with
  | some (some (.own d)) => K.rt (.frs d) b
  | some (some (.val d)) => K.rt (.val d) b
  | _ => False
def frzM (i : Nat) : MS := fun ρ K b => match ρ[i]? with
  | some (some (.own d)) => K.nx (ρ.set i (some (.val d))) b
  | _ => K.nx ρ b
mutual
def ex : S → MS
  | .set i x, ρ, K, b => setM i (ev x) ρ K b
  | .par is xs, ρ, K, b => parM is (evs xs) ρ K b
  | .asg g x, ρ, K, b => ev x ρ (fun r b' => r.kept (fun d b' => plM g d ρ K b') (K.exE ρ) b') (K.exE ρ) b
  | .asgs gs x, ρ, K, b => ev x ρ (tupK gs ρ K) (K.exE ρ) b
  | .app i x, ρ, K, b => appM i (ev x) ρ K b
  | .expr x, ρ, K, b => ev x ρ (fun _ b' => K.nx ρ b') (K.exE ρ) b
  | .ite t x y, ρ, K, b => evB (ev t) ρ (fun c b' => iteK c (exs x ρ K b') (exs y ρ K b')) (K.exE ρ) b
  | .forS t ik its body, ρ, K, b => evs its ρ (fun rs b' => keptAll rs (fun ds b' => walkD ik (valsR ds) (fun ds b' => forM' (fun d ρ' K' b' => tgD t d ρ' (fun ρ2 b2 => exs body ρ2 K' b2) (K'.exE ρ') b') ds ρ K b') (K.exE ρ) b') (K.exE ρ) b') (K.exE ρ) b
  | .whl t body, ρ, K, b => ∃ Wi : Nat → Env' → Nat → Prop, (∃ m, Wi m ρ b) ∧ ∀ m ρ b, Wi m ρ b → evB (ev t) ρ (fun c b' => iteK c (exs body ρ { K with nx := fun ρ' b2 => ∃ m', m' < m ∧ Wi m' ρ' b2, ct := fun ρ' b2 => ∃ m', m' < m ∧ Wi m' ρ' b2, bk := K.nx } b') (K.nx ρ b')) (K.exE ρ) b
  | .ret x, ρ, K, b => ev x ρ (retK K) (K.exE ρ) b
  | .retv i, ρ, K, b => retvM i ρ K b
  | .retN, _, K, b => K.rt (.val .non) b
  | .raise c mk xs, ρ, K, b => evs xs ρ (fun rs b' => keptAll rs (fun ds b' => mk ds (fun fs b' => K.ex ⟨c, fs⟩ ρ b') (K.exE ρ) b') (K.exE ρ) b') (K.exE ρ) b
  | .pass, ρ, K, b => K.nx ρ b
  | .brk, ρ, K, b => K.bk ρ b
  | .cnt, ρ, K, b => K.ct ρ b
  | .frz i, ρ, K, b => frzM i ρ K b
def exs : List S → MS
  | [], ρ, K, b => K.nx ρ b
  | s :: ss, ρ, K, b => ex s ρ { K with nx := fun ρ' b' => exs ss ρ' K b' } b
end
end VL
end
-- V15
section
set_option Elab.async false
set_option linter.all false
set_option maxRecDepth 100000
set_option maxHeartbeats 4000000
/-! Statements: soundness, rule by rule. -/
namespace VL
open PySem PySem.Spec PyProof.Rows
open L2 hiding St
/-- later: what stood fast stands fast -/
structure Lat (F : Addr → Prop) (H : Hp) (F' : Addr → Prop) (H' : Hp) : Prop where
  f : ∀ a, F a → F' a
  k : ∀ a o, F a → H a = some o → H' a = some o
section
variable {Θ : Th} {F F1 F2 : Addr → Prop} {b b1 b2 : Nat} {H H1 H2 : Hp}
theorem Lat.refl : Lat F H F H := ⟨fun _ h => h, fun _ _ _ e => e⟩
theorem Lat.of (x : Ext Θ F b H F1 b1 H1) (w : Wd Θ F b H) : Lat F H F1 H1 := ⟨x.f, x.keep w⟩
theorem Lat.trans (x : Lat F H F1 H1) (y : Lat F1 H1 F2 H2) : Lat F H F2 H2 := ⟨fun a h => y.f a (x.f a h), fun a o h e => y.k a o (x.f a h) (x.k a o h e)⟩
end
/-- what is wanted behind a statement -/
structure PostS (Θ : Th) (e : En) (W : WX) (F : Addr → Prop) (H : Hp) (K : KS) (Dn : Ends) : Prop where
  nx : ∀ ρ' b', K.nx ρ' b' → ∀ σ' F' H', Lat F H F' H' → EOk Θ e F' b' H' σ' ρ' → Dn.nx σ' H'
  bk : ∀ ρ' b', K.bk ρ' b' → ∀ σ' F' H', Lat F H F' H' → EOk Θ e F' b' H' σ' ρ' → Dn.bk σ' H'
  ct : ∀ ρ' b', K.ct ρ' b' → ∀ σ' F' H', Lat F H F' H' → EOk Θ e F' b' H' σ' ρ' → Dn.ct σ' H'
  rt : ∀ r b', K.rt r b' → ∀ v F' H', Ext Θ e.F e.b e.H F' b' H' → RepR Θ e.H F' H' v r → Dn.rt v H'
  ex : ∀ x ρ' b', K.ex x ρ' b' → ∀ cls d σ' F' H', Lat F H F' H' → EOk Θ e F' b' H' σ' ρ' → RepX Θ F' H' cls d x → W cls d σ' H'
/-- the reading of a statement -/
def tS (Θ : Th) (e : En) (W : WX) (f : MS) : TS := fun Dn σ H => ∃ F b ρ K, EOk Θ e F b H σ ρ ∧ f ρ K b ∧ PostS Θ e W F H K Dn
theorem psI {X : Cx} {s : Stmt} {t t' : TS} (h : PS X s t) (i : ∀ Dn σ H, t' Dn σ H → t Dn σ H) : PS X s t' := ⟨fun pins s σ H Dn Iv q => h.run pins s σ H Dn Iv (i Dn σ H q)⟩
theorem pssI {X : Cx} {s : List Stmt} {t t' : TS} (h : PSs X s t) (i : ∀ Dn σ H, t' Dn σ H → t Dn σ H) : PSs X s t' := ⟨fun pins s σ H Dn Iv q => h.run pins s σ H Dn Iv (i Dn σ H q)⟩
section
variable {Θ : Th} {e : En} {W : WX} {F F1 : Addr → Prop} {b b1 : Nat} {H H1 : Hp} {K : KS} {Dn : Ends} {σ : St} {ρ : Env'}
theorem PostS.lat (p : PostS Θ e W F H K Dn) (l : Lat F H F1 H1) : PostS Θ e W F1 H1 K Dn where
  nx := fun ρ' b' h σ' F' H' m => p.nx ρ' b' h σ' F' H' (l.trans m)
  bk := fun ρ' b' h σ' F' H' m => p.bk ρ' b' h σ' F' H' (l.trans m)
  ct := fun ρ' b' h σ' F' H' m => p.ct ρ' b' h σ' F' H' (l.trans m)
  rt := p.rt
  ex := fun x ρ' b' h cls d σ' F' H' m => p.ex x ρ' b' h cls d σ' F' H' (l.trans m)
/-- an error of a term -/
theorem PostS.exE (p : PostS Θ e W F H K Dn) (ok : EOk Θ e F b H σ ρ) : ∀ x b', K.exE ρ x b' → ∀ cls d F' H', Ext Θ F b H F' b' H' → RepX Θ F' H' cls d x → W cls d σ H' := fun x b' h cls d F' H' y r =>
  p.ex x ρ b' h cls d σ F' H' (Lat.of y ok.wd) (ok.ext y) r
/-- from a term's reading to a statement's -/
theorem tV_S {f : Env' → M R} {P : R → Nat → Prop} {Q : VK} (ok : EOk Θ e F b H σ ρ) (p : PostS Θ e W F H K Dn) (m : f ρ P (K.exE ρ) b) (q : ∀ r b', P r b' → ∀ v F' H', Ext Θ F b H F' b' H' → RepR Θ H F' H' v r → Q v H') : tV Θ e W f σ H Q :=
  ⟨F, b, ρ, P, K.exE ρ, ok, m, ⟨q, p.exE ok⟩⟩
theorem slotK_ok {i : Nat} {r : R} (h : slotK i ρ K r b) : ∃ s, r.slot = some s ∧ K.nx (ρ.set i (some s)) b := by
  unfold slotK at h
  cases q : r.slot with
  | none => rw [q] at h; exact h.elim
  | some s => rw [q] at h; exact ⟨s, rfl, h⟩
theorem set_tS {i : Nat} {f : Env' → M R} {te : TE} (ht : ∀ σ H Q, tV Θ e W f σ H Q → te σ H Q) (h : tS Θ e W (setM i f) Dn σ H) : tAsg te (gName i) Dn σ H := by
  obtain ⟨F, b, ρ, K, ok, m, p⟩ := h
  refine ht σ H _ (tV_S ok p m fun r b1 hr v F1 H1 x1 r1 => ?_)
  obtain ⟨s, hs, hn⟩ := slotK_ok hr
  exact p.nx _ _ hn _ _ _ (Lat.of x1 ok.wd) (ok.set x1 r1 hs i)
/-- a name takes a value, at the state as it is -/
theorem EnvOk.put {F0 : Addr → Prop} {b0 : Nat} {H0 : Hp} (ok : EnvOk Θ F0 b0 H0 F b H σ ρ) {v : V} {s : R} (sk : SlotOk Θ H0 F H v s) (ap : ∀ (j : Nat) (d d' : D) (a : Addr), s = R.own d → v = V.ref a → ρ[j]? = some (some (R.own d')) → σ[j]? = some (some (V.ref a)) → False) (i : Nat) :
    EnvOk Θ F0 b0 H0 F b H (σ.set i (some v)) (ρ.set i (some s)) := by
  have hlen := ok.len
  refine ⟨ok.wd, ok.w0, ok.en, by rw [List.length_set, List.length_set]; exact ok.len, fun j r' q => ?_, fun j k d d' a q1 q2 q3 q4 => ?_⟩
  · by_cases hj : i = j
    · subst hj
      obtain ⟨z1, z2⟩ := set_at q
      cases z1
      exact ⟨v, List.getElem?_set_self (by omega), sk⟩
    · rw [List.getElem?_set_ne hj] at q
      rw [List.getElem?_set_ne hj]
      exact ok.sl j r' q
  · by_cases hj : i = j
    · by_cases hk : i = k
      · exact hj.symm.trans hk
      · subst hj
        rw [List.getElem?_set_ne hk] at q2 q4
        obtain ⟨z1, _⟩ := set_at q1
        obtain ⟨z2, _⟩ := set_at q3
        exact (ap k d d' a (Option.some.inj z1).symm (Option.some.inj z2).symm q2 q4).elim
    · by_cases hk : i = k
      · subst hk
        rw [List.getElem?_set_ne hj] at q1 q3
        obtain ⟨z1, _⟩ := set_at q2
        obtain ⟨z2, _⟩ := set_at q4
        exact (ap j d' d a (Option.some.inj z1).symm (Option.some.inj z2).symm q1 q3).elim
      · rw [List.getElem?_set_ne hj] at q1 q3
        rw [List.getElem?_set_ne hk] at q2 q4
        exact ok.ds j k d d' a q1 q2 q3 q4
def setV : St → List Nat → List V → St
  | σ, i :: is, v :: vs => setV (σ.set i (some v)) is vs
  | σ, _, _ => σ
theorem EnvOk.puts {F0 : Addr → Prop} {b0 : Nat} {H0 Hb : Hp} {is : List Nat} {vs : List V} {rs : List R} {ρ' : Env'} (ok : EnvOk Θ F0 b0 H0 F b H σ ρ) (hr : RepRs Θ Hb F H vs rs) (hb : ∀ a, Hb a = none → H0 a = none) (hs : setR ρ is rs = some ρ')
    (fr : ∀ (j k : Nat) (d d' : D) (a : Addr), rs[k]? = some (R.frs d) → vs[k]? = some (V.ref a) → ρ[j]? = some (some (R.own d')) → σ[j]? = some (some (V.ref a)) → False) : EnvOk Θ F0 b0 H0 F b H (setV σ is vs) ρ' := by
  induction hr generalizing is ρ σ with
  | nil =>
    cases is with
    | nil => cases hs; exact ok
    | cons => cases hs
  | @cons v r vs rs h1 h2 ap ih =>
    cases is with
    | nil => cases hs
    | cons i is =>
      unfold setR at hs
      cases q : r.slot with
      | none => rw [q] at hs; cases hs
      | some s =>
        rw [q] at hs
        have sk : SlotOk Θ H0 F H v s := by
          cases r with
          | val d => cases q; exact h1
          | own d => cases q
          | frs d =>
            cases q
            obtain ⟨a, ev, n, p, t, c⟩ := h1
            exact ⟨a, ev, n, hb a t, p, c⟩
        refine ih (ok.put sk (fun j d d' a e1 e2 q1 q2 => ?_) i) hs fun j k d d' a q1 q2 q3 q4 => ?_
        · have er : r = .frs d := by
            cases r with
            | val d2 => simp only [R.slot, Option.some.injEq] at q; subst q; cases e1
            | own d2 => cases q
            | frs d2 => simp only [R.slot, Option.some.injEq] at q; subst q; simp only [R.own.injEq] at e1; rw [e1]
          exact fr j 0 d d' a (by simp [er]) (by simp [e2]) q1 q2
        · by_cases hj : i = j
          · subst hj
            obtain ⟨z1, _⟩ := set_at q3
            obtain ⟨z2, _⟩ := set_at q4
            have er : r = .frs d' := by
              cases r with
              | val d2 => cases q; cases z1
              | own d2 => cases q
              | frs d2 => simp only [R.slot, Option.some.injEq] at q; subst q; simp only [Option.some.injEq, R.own.injEq] at z1; rw [z1]
            exact ap a d' er (Option.some.inj z2).symm k d q1 q2
          · rw [List.getElem?_set_ne hj] at q3 q4
            exact fr j (k + 1) d d' a (by simpa using q1) (by simpa using q2) q3 q4
theorem setR_len {is : List Nat} {rs : List R} {ρ ρ' : Env'} (h : setR ρ is rs = some ρ') : rs.length = is.length := by
  induction is generalizing rs ρ with
  | nil =>
    cases rs with
    | nil => rfl
    | cons => cases h
  | cons i is ih =>
    cases rs with
    | nil => cases h
    | cons r rs =>
      unfold setR at h
      cases q : r.slot with
      | none => rw [q] at h; cases h
      | some s => rw [q] at h; rw [List.length_cons, List.length_cons, ih h]
theorem par_tS {is : List Nat} {fs : Env' → M (List R)} (h : tS Θ e W (parM is fs) Dn σ H) : tVs Θ e W fs σ H fun vs H1 => vs.length = is.length ∧ Dn.nx (setV σ is vs) H1 := by
  obtain ⟨F, b, ρ, K, ok, m, p⟩ := h
  refine ⟨F, b, ρ, _, K.exE ρ, ok, m, fun rs b1 hr vs F1 H1 x1 r1 => ?_, p.exE ok⟩
  cases q : setR ρ is rs with
  | none => rw [q] at hr; exact hr.elim
  | some ρ' =>
    rw [q] at hr
    refine ⟨by rw [r1.length, setR_len q], ?_⟩
    refine p.nx _ _ hr _ _ _ (Lat.of x1 ok.wd) ((ok.ext x1).puts r1 (fun a t => ok.en.back t) q fun j k d d' a q1 q2 q3 q4 => ?_)
    have t := r1.frs_none q1 q2
    obtain ⟨v, hv, a', ev, _, _, _, c⟩ := ok.sl j _ q3
    rw [q4] at hv
    cases hv
    cases ev
    obtain ⟨o, ho, _⟩ := c.there
    rw [t] at ho; cases ho
end
end VL
end
-- V16
section
set_option Elab.async false
set_option linter.all false
set_option maxRecDepth 100000
set_option maxHeartbeats 4000000
/-! Statements: soundness, the other rules. -/
namespace VL
open PySem PySem.Spec PyProof.Rows
open L2 hiding St
/-- the reading of a place -/
def pT (Θ : Th) (e : En) (W : WX) : Pl → TG
  | .var i => gName i
  | .item i ix => gSub (tVar i) (tV Θ e W (ev ix)) rSetL
  | .key i k => gSub (tVar i) (tC (.str k)) rSetD
section
variable {Θ : Th} {e : En} {W : WX} {F F1 : Addr → Prop} {b b1 : Nat} {H H1 : Hp} {K : KS} {Dn : Ends} {σ : St} {ρ : Env'}
theorem lat_write {F2 : Addr → Prop} {H2 : Hp} (l : Lat F H F2 H2) {a : Addr} {o : HO} (n : ¬ F2 a) : Lat F H F2 (upd H2 a o) :=
  ⟨l.f, fun c u h1 h2 => by rw [upd_ne (show c ≠ a from fun z => by subst z; exact n (l.f _ h1))]; exact l.k c u h1 h2⟩
theorem keep_write {F2 : Addr → Prop} {H2 : Hp} {a : Addr} {o : HO} (n : ¬ F2 a) : ∀ c u, F2 c → H2 c = some u → upd H2 a o c = some u := fun c u h1 h2 => by
  rw [upd_ne (show c ≠ a from fun z => by subst z; exact n h1)]; exact h2
theorem own_at {F0 : Addr → Prop} {b0 : Nat} {H0 : Hp} (ok : EnvOk Θ F0 b0 H0 F b H σ ρ) {i : Nat} {d : D} (h : ρ[i]? = some (some (.own d))) : ∃ a, σ[i]? = some (some (.ref a)) ∧ ¬ F a ∧ Cont Θ F H a d := by
  obtain ⟨v, hv, a, rfl, n, _, _, c⟩ := ok.sl i _ h
  exact ⟨a, hv, n, c⟩
theorem repK_any {kvs : List (Key × V)} {ds : List (Str × D)} {k : Str} (h : RepK Θ F H kvs ds) : (kvs.any fun kv => decide (kv.1 = Sum.inr k)) = ds.any fun kv => decide (kv.1 = k) := by
  induction ds generalizing kvs with
  | nil => cases h; rfl
  | cons p ds ih =>
    obtain ⟨x, y⟩ := p
    cases h with
    | cons a r =>
      rw [List.any_cons, List.any_cons, ih r]
      congr 1
      simp
theorem repK_map {kvs : List (Key × V)} {ds : List (Str × D)} {k : Str} {v : V} {d : D} (h : RepK Θ F H kvs ds) (r : Rep Θ F H v d) :
    RepK Θ F H (kvs.map fun kv => if kv.1 = Sum.inr k then (kv.1, v) else kv) (ds.map fun kv => if kv.1 = k then (kv.1, d) else kv) := by
  induction ds generalizing kvs with
  | nil => cases h; exact .nil
  | cons p ds ih =>
    obtain ⟨x, y⟩ := p
    cases h with
    | cons a q =>
      rw [List.map_cons, List.map_cons]
      by_cases e : x = k
      · subst e
        simp only [if_true]
        exact .cons r (ih q)
      · rw [if_neg (fun z => e (Sum.inr.inj z)), if_neg e]
        exact .cons a (ih q)
theorem repK_app {kvs us : List (Key × V)} {ds es : List (Str × D)} (h : RepK Θ F H kvs ds) (g : RepK Θ F H us es) : RepK Θ F H (kvs ++ us) (ds ++ es) := by
  induction ds generalizing kvs with
  | nil => cases h; exact g
  | cons p ds ih =>
    obtain ⟨x, y⟩ := p
    cases h with
    | cons a r => exact .cons a (ih r)
theorem repK_put {kvs : List (Key × V)} {ds : List (Str × D)} {k : Str} {v : V} {d : D} (h : RepK Θ F H kvs ds) (r : Rep Θ F H v d) : RepK Θ F H (putK kvs (.inr k) v) (putD ds k d) := by
  unfold putK putD
  rw [repK_any h]
  split
  · exact repK_map h r
  · exact repK_app h (.cons r .nil)
theorem repK_len {kvs : List (Key × V)} {ds : List (Str × D)} (h : RepK Θ F H kvs ds) : kvs.length = ds.length := by
  induction ds generalizing kvs with
  | nil => cases h; rfl
  | cons p ds ih =>
    obtain ⟨x, y⟩ := p
    cases h with
    | cons a r => rw [List.length_cons, List.length_cons, ih r]
theorem pl_ok {g : Pl} {v : V} {d : D} (ok : EOk Θ e F b H σ ρ) (r : Rep Θ F H v d) (m : plM g d ρ K b) (p : PostS Θ e W F H K Dn) : pT Θ e W g v σ H Dn.nx := by
  cases g with
  | var i => exact p.nx _ _ m _ _ _ .refl (ok.set (r := .val d) (s := .val d) .refl r rfl i)
  | item i ix =>
    unfold plM at m
    dsimp only at m
    split at m
    · rename_i xs hi
      obtain ⟨a, hv, _, _⟩ := own_at ok hi
      refine ⟨_, hv, tV_S ok p m fun r2 b2 m2 v2 F2 H2 x2 rr => ?_⟩
      have ok2 := ok.ext x2
      obtain ⟨a', hv', n, vs, ea, rl⟩ := own_at ok2 hi
      rw [hv] at hv'; cases hv'
      have s2 := rr.sees
      cases hd : r2.d <;> simp only [hd] at m2 s2 <;> try exact m2.elim
      rename_i kk
      cases hj : ixN xs.length kk with
      | none => simp only [hj] at m2
      | some j =>
        simp only [hj] at m2
        refine ⟨a, vs, kk, j, rfl, s2, ea, by rw [rl.length]; exact hj, ?_⟩
        refine p.nx _ _ m2 _ _ _ (lat_write (Lat.of x2 ok.wd) n) (ok2.write hi hv noTab_lst ⟨_, upd_same, (rl.set j (r.ext x2 ok.wd)).mono (fun _ z => z) (keep_write n)⟩)
    · exact m.elim
  | key i kk =>
    unfold plM at m
    dsimp only at m
    split at m
    · rename_i kvs hi
      obtain ⟨a, hv, n, vs, ea, rl⟩ := own_at ok hi
      refine ⟨_, hv, a, _, rfl, DPut.k (k := .inr kk) ea (by rw [repK_len rl, sizeLine_eq]; omega), ?_⟩
      exact p.nx _ _ m.2 _ _ _ (lat_write .refl n) (ok.write hi hv noTab_dK ⟨_, upd_same, (repK_put rl r).mono (fun _ z => z) (keep_write n)⟩)
    · exact m.elim
/-- name = value, at a place -/
theorem asg_tS {g : Pl} {f : Env' → M R} (h : tS Θ e W (fun ρ K b => f ρ (fun r b' => r.kept (fun d b' => plM g d ρ K b') (K.exE ρ) b') (K.exE ρ) b) Dn σ H) : tAsg (tV Θ e W f) (pT Θ e W g) Dn σ H := by
  obtain ⟨F, b, ρ, K, ok, m, p⟩ := h
  refine tV_S ok p m fun r b1 hr v F1 H1 x1 r1 => ?_
  obtain ⟨hr, no⟩ := kept_one hr
  obtain ⟨F2, hf, x2, r2⟩ := r1.keep x1 no
  exact pl_ok (ok.ext x2) r2 hr (p.lat (Lat.of x2 ok.wd))
def pTs (Θ : Th) (e : En) (W : WX) : List Pl → TGs
  | [] => gNil
  | g :: gs => gCons (pT Θ e W g) (pTs Θ e W gs)
theorem pls_ok {gs : List Pl} {vs : List V} {ds : List D} (ok : EOk Θ e F b H σ ρ) (r : RepL Θ F H vs ds) (m : plsM gs ds ρ K b) (p : PostS Θ e W F H K Dn) : pTs Θ e W gs vs σ H Dn.nx := by
  induction gs generalizing vs ds F b H σ ρ with
  | nil =>
    cases ds with
    | cons => exact m.elim
    | nil => cases r; exact ⟨rfl, p.nx _ _ m _ _ _ .refl ok⟩
  | cons g gs ih =>
    cases ds with
    | nil => exact m.elim
    | cons d ds =>
      cases r with
      | @cons v _ vs _ r1 rl =>
        refine ⟨v, vs, rfl, ?_⟩
        refine pl_ok (Dn := { Dn with nx := fun σ' H' => pTs Θ e W gs vs σ' H' Dn.nx }) ok r1 m ⟨fun ρ' b' h σ' F' H' l ok' => ?_, p.bk, p.ct, p.rt, p.ex⟩
        exact ih ok' (rl.mono l.f l.k) h (p.lat l)
theorem asgs_tS {gs : List Pl} {f : Env' → M R} (h : tS Θ e W (fun ρ K b => f ρ (tupK gs ρ K) (K.exE ρ) b) Dn σ H) : tAsg (tV Θ e W f) (gTup Θ.K gs.length (pTs Θ e W gs)) Dn σ H := by
  obtain ⟨F, b, ρ, K, ok, m, p⟩ := h
  refine tV_S ok p m fun r b1 hr v F1 H1 x1 r1 => ?_
  unfold tupK at hr
  split at hr
  · rename_i ds
    obtain ⟨a, vs, rfl, h1, h2⟩ := (show Rep Θ F1 H1 v (.tup ds) from r1).sees
    exact ⟨a, vs, rfl, h1, by rw [h2.length, hr.1], pls_ok (ok.ext x1) h2 hr.2 (p.lat (Lat.of x1 ok.wd))⟩
  · exact hr.elim
theorem app_tS {i : Nat} {f : Env' → M R} (h : tS Θ e W (appM i f) Dn σ H) : tDrop (tBM Θ.K "list" rAppend (tVar i) (tCons (tV Θ e W f) tNil)) Dn σ H := by
  obtain ⟨F, b, ρ, K, ok, m, p⟩ := h
  unfold appM at m
  split at m
  · rename_i xs hi
    obtain ⟨a, hv, n, vs, ea, rl⟩ := own_at ok hi
    refine ⟨_, hv, .inl ⟨rfl, vs, SqL.of ea⟩, tV_S ok p m fun r b1 hr v F1 H1 x1 r1 => ?_⟩
    obtain ⟨⟨hz, hn⟩, no⟩ := kept_one hr
    obtain ⟨F2, hf, x2, r2⟩ := r1.keep x1 no
    have ok2 := ok.ext x2
    obtain ⟨a', hv', n', vs', ea', rl'⟩ := own_at ok2 hi
    rw [hv] at hv'; cases hv'
    refine ⟨a, vs', v, rfl, rfl, ea', by rw [rl'.length]; exact hz, ?_⟩
    exact p.nx _ _ hn _ _ _ (lat_write (Lat.of x2 ok.wd) n') (ok2.write hi hv noTab_lst ⟨_, upd_same, (rl'.append (.cons r2 .nil)).mono (fun _ z => z) (keep_write n')⟩)
  · exact m.elim
theorem expr_tS {f : Env' → M R} (h : tS Θ e W (fun ρ K b => f ρ (fun _ b' => K.nx ρ b') (K.exE ρ) b) Dn σ H) : tDrop (tV Θ e W f) Dn σ H := by
  obtain ⟨F, b, ρ, K, ok, m, p⟩ := h
  exact tV_S ok p m fun r b1 hr v F1 H1 x1 r1 => p.nx _ _ hr _ _ _ (Lat.of x1 ok.wd) (ok.ext x1)
theorem ite_tS {f : Env' → M R} {x y : MS} (h : tS Θ e W (fun ρ K b => evB f ρ (fun c b' => iteK c (x ρ K b') (y ρ K b')) (K.exE ρ) b) Dn σ H) : tIfS (tVt Θ e W (evB f)) (tS Θ e W x) (tS Θ e W y) Dn σ H := by
  obtain ⟨F, b, ρ, K, ok, m, p⟩ := h
  refine ⟨F, b, ρ, _, K.exE ρ, ok, m, fun c b1 hc F1 H1 x1 => ?_, p.exE ok⟩
  cases c with
  | true => exact ⟨F1, b1, ρ, K, ok.ext x1, hc, p.lat (Lat.of x1 ok.wd)⟩
  | false => exact ⟨F1, b1, ρ, K, ok.ext x1, hc, p.lat (Lat.of x1 ok.wd)⟩
theorem ret_tS {f : Env' → M R} (h : tS Θ e W (fun ρ K b => f ρ (retK K) (K.exE ρ) b) Dn σ H) : tRet (tV Θ e W f) Dn σ H := by
  obtain ⟨F, b, ρ, K, ok, m, p⟩ := h
  refine tV_S ok p m fun r b1 hr v F1 H1 x1 r1 => ?_
  have x2 := ok.en.trans x1 ok.w0
  cases r with
  | own d => exact hr.elim
  | val d => exact p.rt _ _ hr _ _ _ x2 r1
  | frs d => exact p.rt _ _ hr _ _ _ x2 (r1.base ok.en)
theorem retv_tS {i : Nat} (h : tS Θ e W (retvM i) Dn σ H) : tRet (tVar i) Dn σ H := by
  obtain ⟨F, b, ρ, K, ok, m, p⟩ := h
  unfold retvM at m
  split at m
  · rename_i d hi
    obtain ⟨v, hv, a, ev, n, z, pp, c⟩ := ok.sl i _ hi
    exact ⟨v, hv, p.rt _ _ m _ _ _ ok.en ⟨a, ev, n, pp, z, c⟩⟩
  · rename_i d hi
    obtain ⟨v, hv, k⟩ := ok.sl i _ hi
    exact ⟨v, hv, p.rt _ _ m _ _ _ ok.en k⟩
  · exact m.elim
theorem retN_tS (h : tS Θ e W (fun _ K b => K.rt (.val .non) b) Dn σ H) : tRetN Dn σ H := by
  obtain ⟨F, b, ρ, K, ok, m, p⟩ := h
  exact p.rt _ _ m _ _ _ ok.en Rep.non
theorem nx_tS (h : tS Θ e W (fun ρ K b => K.nx ρ b) Dn σ H) : tNext Dn σ H := by
  obtain ⟨F, b, ρ, K, ok, m, p⟩ := h
  exact p.nx _ _ m _ _ _ .refl ok
theorem bk_tS (h : tS Θ e W (fun ρ K b => K.bk ρ b) Dn σ H) : tBreak Dn σ H := by
  obtain ⟨F, b, ρ, K, ok, m, p⟩ := h
  exact p.bk _ _ m _ _ _ .refl ok
theorem ct_tS (h : tS Θ e W (fun ρ K b => K.ct ρ b) Dn σ H) : tCont Dn σ H := by
  obtain ⟨F, b, ρ, K, ok, m, p⟩ := h
  exact p.ct _ _ m _ _ _ .refl ok
theorem seq_tS {x y : MS} (h : tS Θ e W (fun ρ K b => x ρ { K with nx := fun ρ' b' => y ρ' K b' } b) Dn σ H) : tSeq (tS Θ e W x) (tS Θ e W y) Dn σ H := by
  obtain ⟨F, b, ρ, K, ok, m, p⟩ := h
  exact ⟨F, b, ρ, _, ok, m, ⟨fun ρ' b' hn σ' F' H' l ok' => ⟨F', b', ρ', K, ok', hn, p.lat l⟩, p.bk, p.ct, p.rt, p.ex⟩⟩
theorem frz_tS {i : Nat} {y : MS} (h : tS Θ e W (fun ρ K b => frzM i ρ { K with nx := fun ρ' b' => y ρ' K b' } b) Dn σ H) : tS Θ e W y Dn σ H := by
  obtain ⟨F, b, ρ, K, ok, m, p⟩ := h
  unfold frzM at m
  split at m
  · rename_i d hi
    obtain ⟨F', hf, ok'⟩ := ok.freeze hi
    exact ⟨F', b, _, K, ok', m, p.lat ⟨hf, fun _ _ _ h => h⟩⟩
  · exact ⟨F, b, _, K, ok, m, p⟩
theorem whl_tS {f : Env' → M R} {y : MS} (h : tS Θ e W (fun ρ K b => ∃ Wi : Nat → Env' → Nat → Prop, (∃ m, Wi m ρ b) ∧ ∀ m ρ b, Wi m ρ b → evB f ρ (fun c b' => iteK c (y ρ { K with nx := fun ρ' b2 => ∃ m', m' < m ∧ Wi m' ρ' b2, ct := fun ρ' b2 => ∃ m', m' < m ∧ Wi m' ρ' b2, bk := K.nx } b') (K.nx ρ b')) (K.exE ρ) b) Dn σ H) :
    tWhile (tVt Θ e W (evB f)) (tS Θ e W y) Dn σ H := by
  obtain ⟨F, b, ρ, K, ok, ⟨Wi, ⟨m0, w0⟩, step⟩, p⟩ := h
  refine ⟨fun m σ' H' => ∃ F' b' ρ', EOk Θ e F' b' H' σ' ρ' ∧ Lat F H F' H' ∧ Wi m ρ' b', ⟨m0, F, b, ρ, ok, .refl, w0⟩, ?_⟩
  rintro m σ' H' ⟨F', b', ρ', ok', l, w⟩
  have p' := p.lat l
  refine ⟨F', b', ρ', _, K.exE ρ', ok', step m ρ' b' w, fun c b1 hc F1 H1 x1 => ?_, p'.exE ok'⟩
  have l1 := Lat.of x1 ok'.wd
  cases c with
  | true =>
    simp only [if_true]
    refine ⟨fun σ2 H2 => ∃ m', m' < m ∧ ∃ F2 b2 ρ2, EOk Θ e F2 b2 H2 σ2 ρ2 ∧ Lat F H F2 H2 ∧ Wi m' ρ2 b2, fun σ2 H2 ⟨m', hm, q⟩ => ⟨m', hm, q⟩, F1, b1, ρ', _, ok'.ext x1, hc, ?_⟩
    have lx := l.trans l1
    have p1 := p.lat lx
    exact ⟨fun ρ2 b2 ⟨m', hm, q⟩ σ2 F2 H2 l2 ok2 => ⟨m', hm, F2, b2, ρ2, ok2, lx.trans l2, q⟩, p1.nx, fun ρ2 b2 ⟨m', hm, q⟩ σ2 F2 H2 l2 ok2 => ⟨m', hm, F2, b2, ρ2, ok2, lx.trans l2, q⟩, p1.rt, p1.ex⟩
  | false =>
    simp only [Bool.false_eq_true, if_false]
    exact p'.nx _ _ hc _ _ _ l1 (ok'.ext x1)
theorem vals_rep {vs : List V} {ds : List D} {Hb : Hp} (r : RepL Θ F H vs ds) : RepRs Θ Hb F H vs (valsR ds) := by
  induction ds generalizing vs with
  | nil => cases r; exact .nil
  | cons d ds ih =>
    cases r with
    | cons a q => exact .cons a (ih q) (fun _ _ z => by cases z)
theorem vals_all {ds : List D} : (valsR ds).all isVal = true := by
  induction ds with
  | nil => rfl
  | cons d ds ih => exact ih
theorem for_tS {t : Tg} {ik : Ik} {fs : Env' → M (List R)} {y : MS} (h : tS Θ e W (fun ρ K b => fs ρ (fun rs b' => keptAll rs (fun ds b' => walkD ik (valsR ds) (fun ds b' => forM' (fun d ρ' K' b' => tgD t d ρ' (fun ρ2 b2 => y ρ2 K' b2) (K'.exE ρ') b') ds ρ K b') (K.exE ρ) b') (K.exE ρ) b') (K.exE ρ) b) Dn σ H) :
    tFor (iW Θ ik (tVs Θ e W fs)) (gT Θ.K t) (tS Θ e W y) Dn σ H := by
  obtain ⟨F, b, ρ, K, ok, m, p⟩ := h
  refine ⟨F, b, ρ, _, K.exE ρ, ok, m, fun rs b1 hr vs F1 H1 x1 r1 => ?_, p.exE ok⟩
  obtain ⟨ds0, m2, kk⟩ := kept_ok r1 hr
  have rl := kk vs fun _ h => h
  have x2 := fixed_ext (vs := vs) x1
  obtain ⟨ds, wi, m3⟩ := walk_is m2
  have ok2 := ok.ext x2
  refine ⟨_, b1, H1, valsR ds0, ds, ok2.wd, vals_rep rl, wi, fun J Gd wd => ?_⟩
  generalize fixed F1 H H1 vs = Fb at rl x2 ok2 wd
  refine ⟨fun i m σ2 H2 => m = ds.length - i ∧ i ≤ ds.length ∧ ∃ F2 b2 ρ2, EOk Θ e F2 b2 H2 σ2 ρ2 ∧ Lat Fb H1 F2 H2 ∧ forM' (fun d ρ' K' b' => tgD t d ρ' (fun ρ2 b2 => y ρ2 K' b2) (K'.exE ρ') b') (ds.drop i) ρ2 K b2, ⟨ds.length, by omega, Nat.zero_le _, Fb, b1, ρ, ok2, .refl, m3⟩, ?_⟩
  rintro i mm σ2 H2 ⟨rfl, hi, F2, b2, ρ2, ok3, l3, m4⟩
  have hG := wd.kept vals_all H2 l3.k
  have lF := (Lat.of x2 ok.wd).trans l3
  by_cases hlt : i < ds.length
  · refine .inr ⟨wd.go i H2 hlt hG, fun σ' H' => ∃ F3 b3 ρ3, EOk Θ e F3 b3 H' σ' ρ3 ∧ Lat Fb H1 F3 H' ∧ forM' (fun d ρ' K' b' => tgD t d ρ' (fun ρ2 b2 => y ρ2 K' b2) (K'.exE ρ') b') (ds.drop (i + 1)) ρ3 K b3, fun σ' H' q => ⟨ds.length - (i + 1), by omega, rfl, hlt, q⟩, fun x H3 yy => ?_⟩
    obtain ⟨F3, d, ed, x3, rd⟩ := wd.yld i F2 b2 H2 x H3 hlt hG l3.f l3.k ok3.wd yy
    have edrop : ds.drop i = d :: ds.drop (i + 1) := by
      rw [List.drop_eq_getElem_cons hlt]
      rw [List.getElem?_eq_getElem hlt] at ed
      rw [Option.some.inj ed]
    rw [edrop] at m4
    have l4 := Lat.of x3 ok3.wd
    refine gT_ok (ok3.ext x3) rd m4 fun σ' ρ' m5 ok5 _ => ?_
    have lx := l3.trans l4
    have px := p.lat (lF.trans l4)
    exact ⟨F3, b2, ρ', _, ok5, m5, ⟨fun ρ4 b4 h4 σ4 F4 H4 l5 ok6 => ⟨F4, b4, ρ4, ok6, lx.trans l5, h4⟩, px.nx, fun ρ4 b4 h4 σ4 F4 H4 l5 ok6 => ⟨F4, b4, ρ4, ok6, lx.trans l5, h4⟩, px.rt, px.ex⟩⟩
  · have e1 : i = ds.length := by omega
    subst e1
    rw [List.drop_length] at m4
    exact .inl ⟨wd.stop H2 hG, p.nx _ _ m4 _ _ _ lF ok3⟩
end
end VL
end
-- V17
section
set_option Elab.async false
set_option linter.all false
set_option maxRecDepth 100000
set_option maxHeartbeats 4000000
/-! Statements and the text: the check. -/
namespace VL
open PySem PySem.Spec PyProof.Rows
open L2 hiding St
/-! ### swapped stores -/
def noSw : Expr → Bool
  | .ListComp .. => false
  | .SetComp .. => false
  | .DictComp .. => false
  | _ => true
theorem sw_no {a : Expr} {t : Option Expr} {l : Nat} {env : Env} (h : noSw a = true) : swapsWith a t l env = pure false := by
  cases a <;> first | rfl | cases h
theorem sw_tup {a : Expr} {as : List Expr} {k : Nat} {p : Pos} {l : Nat} {env : Env} : swapsWith a (some (.Tuple as k p)) l env = pure false := by
  cases a <;> rfl
theorem sw_sub {a o i : Expr} {p : Pos} {l : Nat} {env : Env} : swapsWith a (some (.Subscript o i p)) l env = pure false := by
  cases a <;> rfl
theorem sw_tupS {a : Expr} {as : List Expr} {k : Nat} {p : Pos} {l : Nat} {env : Env} : swapsWithSole [.Tuple as k p] a l env = pure false := by
  cases a <;> rfl
theorem sw_subS {a o i : Expr} {p : Pos} {l : Nat} {env : Env} : swapsWithSole [.Subscript o i p] a l env = pure false := by
  cases a <;> rfl
/-- a list comprehension that is stored ahead of its block's end -/
def swB (sc : Scope) (x : Str) (np : Pos) (scope : Scope) (pos : Pos) : Bool := (np.line == pos.line) && decide (sc.names.lookup x = some .local) && !(scope.names.any fun (n, k) => n == x && (k == .local || k == .cell))
def nmOf (sc : Scope) (line : Nat) : Expr → Option Str
  | .Name x p => if (sc.names.lookup x == some .local && p.line == line) = true then some x else none
  | _ => none
def swNames (sc : Scope) (ts : List Expr) : List Str := ts.filterMap (nmOf sc ((ts.head?.map (·.pos.line)).getD 0))
def isStar : Expr → Bool
  | .Starred .. => true
  | _ => false
/-- the names that are stored from the right -/
def swC (sc : Scope) (ts vs : List Expr) : Option (List Str) :=
  if ((ts.length == 2 || ts.length == 3) && vs.length == ts.length && !vs.any isStar && (swNames sc ts).length == ts.length && (swNames sc ts).eraseDups.length == (swNames sc ts).length && !vs.all (foldedForSure 8) && !vs.all (constantsAlone 8)) = true then some (swNames sc ts) else none
/-- stored one after another -/
def swN (sc : Scope) (ts : List Expr) : Expr → Bool
  | .Tuple vs _ _ => !(ts.length == 2 || ts.length == 3) || vs.length != ts.length || vs.any isStar || ((swNames sc ts).length != ts.length || (swNames sc ts).eraseDups.length != (swNames sc ts).length) || vs.all (foldedForSure 8)
  | _ => true
theorem swC_ok {env : Env} {ts vs : List Expr} {k k2 : Nat} {p p2 : Pos} {ns : List Str} (hk : env.scope.kind = .function) (h : swC env.scope ts vs = some ns) : swappedStores [.Tuple ts k p] (.Tuple vs k2 p2) env = pure (some ns) := by
  have hb : env.blockKind = .function := by unfold Env.blockKind; rw [hk]; rfl
  unfold swC at h
  split at h
  · rename_i q
    cases h
    simp only [Bool.and_eq_true, Bool.not_eq_true', beq_iff_eq] at q
    obtain ⟨⟨⟨⟨⟨⟨q1, q2⟩, q3⟩, q4⟩, q5⟩, q6⟩, q7⟩ := q
    unfold swappedStores
    show (if (!(ts.length == 2 || ts.length == 3) || vs.length != ts.length || env.blockKind != ScopeKind.function) = true then pure none else if vs.any isStar = true then pure none
      else if ((swNames env.scope ts).length != ts.length || (swNames env.scope ts).eraseDups.length != (swNames env.scope ts).length) = true then pure none else if vs.all (foldedForSure 8) = true then pure none
      else if vs.all (constantsAlone 8) = true then _ else pure (some (swNames env.scope ts))) = _
    rw [hb, if_neg (by simp only [bne, q2]; simp [q1]), if_neg (by rw [q3]; simp), if_neg (by simp [bne, q4, q5]), if_neg (by rw [q6]; simp), if_neg (by rw [q7]; simp)]
  · cases h
theorem swN_ok {env : Env} {ts : List Expr} {a : Expr} {k : Nat} {p : Pos} (h : swN env.scope ts a = true) : swappedStores [.Tuple ts k p] a env = pure none := by
  cases a <;> try rfl
  rename_i vs k2 p2
  unfold swN at h
  simp only [Bool.or_eq_true] at h
  unfold swappedStores
  show (if (!(ts.length == 2 || ts.length == 3) || vs.length != ts.length || env.blockKind != ScopeKind.function) = true then pure none else if vs.any isStar = true then pure none
      else if ((swNames env.scope ts).length != ts.length || (swNames env.scope ts).eraseDups.length != (swNames env.scope ts).length) = true then pure none else if vs.all (foldedForSure 8) = true then pure none
      else if vs.all (constantsAlone 8) = true then _ else pure (some (swNames env.scope ts))) = _
  split
  · rfl
  · rename_i h1
    split
    · rfl
    · rename_i h2
      split
      · rfl
      · rename_i h3
        split
        · rfl
        · rename_i h4
          exfalso
          simp only [Bool.or_eq_true, not_or] at h1 h3
          rcases h with (((h | h) | h) | h) | h
          · exact h1.1.1 h
          · exact h1.1.2 h
          · exact h2 h
          · rcases h with h | h
            · exact h3.1 h
            · exact h3.2 h
          · exact h4 h
theorem sw_sub_none {a o i : Expr} {p : Pos} {env : Env} : swappedStores [.Subscript o i p] a env = pure none := by
  cases a <;> rfl
theorem swB_true {env : Env} {x : Str} {np pos : Pos} {elt : Expr} {gs : List Comprehension} {scope : Scope} {l : Nat} (hk : env.scope.kind = .function) (h : swB env.scope x np scope pos = true) : env.scope.names.lookup x = some .local ∧ swapsWith (.ListComp elt gs scope pos) (some (.Name x np)) l env = pure true := by
  unfold swB at h
  simp only [Bool.and_eq_true, decide_eq_true_eq, Bool.not_eq_true'] at h
  exact ⟨h.1.2, sw_true hk h.1.2 h.1.1 h.2⟩
end VL
end
-- V18
section
set_option Elab.async false
set_option linter.all false
set_option maxRecDepth 100000
set_option maxHeartbeats 4000000
/-! Statements and the text: the check, the theorem. -/
namespace VL
open PySem PySem.Spec PyProof.Rows
open L2 hiding St
theorem swB_false {env : Env} {x : Str} {np pos : Pos} {elt : Expr} {gs : List Comprehension} {scope : Scope} {l : Nat} (hk : env.scope.kind = .function) (h : swB env.scope x np scope pos = false) : swapsWith (.ListComp elt gs scope pos) (some (.Name x np)) l env = pure false := by
  have hb : env.blockKind = .function := by unfold Env.blockKind; rw [hk]; rfl
  have e : (env.blockKind == .function && env.kindOf x == some .local && np.line == pos.line && !(scope.names.any fun (n, k) => n == x && (k == .local || k == .cell))) = false := by
    rw [hb]
    unfold swB at h
    have q : (env.kindOf x == some .local) = decide (env.scope.names.lookup x = some .local) := by
      show (env.scope.names.lookup x == some .local) = _
      by_cases z : env.scope.names.lookup x = some .local
      · rw [z]; rfl
      · rw [decide_eq_false z]; simpa using z
    rw [q, ← h]
    generalize (np.line == pos.line) = u
    generalize decide (env.scope.names.lookup x = some .local) = v
    generalize (scope.names.any fun (n, k) => n == x && (k == .local || k == .cell)) = w
    cases u <;> cases v <;> cases w <;> rfl
  show (pure (env.blockKind == .function && env.kindOf x == some .local && np.line == pos.line && !(scope.names.any fun (n, k) => n == x && (k == .local || k == .cell))) : Sem Bool) = pure false
  rw [e]
/-- how a name's value is stored -/
inductive SwK where
  | no | lc
def swK (sc : Scope) (x : Str) (np : Pos) : Expr → Option SwK
  | .ListComp _ _ scope pos => if swB sc x np scope pos = true then some .lc else some .no
  | .SetComp .. => none
  | .DictComp .. => none
  | _ => some .no
theorem swK_no {env : Env} {x : Str} {np : Pos} {a : Expr} {l : Nat} (hk : env.scope.kind = .function) (h : swK env.scope x np a = some .no) : swapsWith a (some (.Name x np)) l env = pure false := by
  cases a <;> first | rfl | (cases h; done) | skip
  unfold swK at h
  dsimp only at h
  split at h
  · cases h
  · rename_i q
    exact swB_false hk (by simpa using q)
theorem swK_lc {sc : Scope} {x : Str} {np : Pos} {a : Expr} (h : swK sc x np a = some .lc) : ∃ elt gs scope pos, a = .ListComp elt gs scope pos ∧ swB sc x np scope pos = true := by
  unfold swK at h
  split at h <;> try cases h
  split at h
  · rename_i q
    exact ⟨_, _, _, _, rfl, q⟩
  · cases h
/-! ### the check -/
def isN (N : List Str) (i : Nat) : Expr → Bool
  | .Name x _ => decide (N[i]? = some x)
  | _ => false
/-- a place in the text -/
def plB (p : Pr) (N : List Str) (sc : Scope) : Pl → Expr → Bool
  | .var i, a => isNm N sc sc i a
  | .item i ix, .Subscript (.Name x _) a _ => decide (N[i]? = some x) && visB sc x && plainName x && chk ix p N sc a && notSlice a
  | .key i k, .Subscript (.Name x _) (.Constant (.str y) _ _) _ => decide (N[i]? = some x) && visB sc x && plainName x && decide (k = y)
  | _, _ => false
def plsB (p : Pr) (N : List Str) (sc : Scope) : List Pl → List Expr → Bool
  | [], [] => true
  | g :: gs, a :: as => plB p N sc g a && plsB p N sc gs as
  | _, _ => false
def locN (N : List Str) (sc : Scope) (i : Nat) (x : Str) : Bool := decide (N[i]? = some x) && decide (sc.names.lookup x = some .local)
inductive VSt where
  | set (x : Str) (np : Pos) (a : Expr) | tup (ts : List Expr) (a : Expr) | sub (t a : Expr) | app (x : Str) (np : Pos) (a : Expr) (same : Bool) | expr (a : Expr)
  | ite (t : Expr) (a b : List Stmt) | forS (tg iter : Expr) (b : List Stmt) | whl (t : Expr) (b : List Stmt) | ret (a : Expr) | retN | raise (c : Str) (as : List Expr)
  | pass | brk | cnt | other
def lookS : Stmt → VSt
  | .Assign [.Name x np] a _ => .set x np a
  | .Assign [.Tuple ts _ _] a _ => .tup ts a
  | .Assign [.Subscript o i p] a _ => .sub (.Subscript o i p) a
  | .Expr (.Call (.Attribute (.Name x np) "append" ap) [a] [] cp) _ => .app x np a (ap.endLine == cp.line)
  | .Expr a _ => .expr a
  | .If t a b _ => .ite t a b
  | .For tg iter b [] _ => .forS tg iter b
  | .While t b [] _ => .whl t b
  | .Return (some a) _ => .ret a
  | .Return none _ => .retN
  | .Raise (some (.Call (.Name c _) as [] _)) none _ => .raise c as
  | .Pass _ => .pass
  | .Break _ => .brk
  | .Continue _ => .cnt
  | _ => .other
mutual
def chkS (p : Pr) (N : List Str) (sc : Scope) : S → Stmt → Bool
  | .set i x, st => (match lookS st with
    | .set y np a => decide (N[i]? = some y) && stoB sc sc y && chk x p N sc a && (match swK sc y np a with
      | some _ => true
      | none => false)
    | _ => false)
  | .par is xs, st => (match lookS st with
    | .tup ts a => (match lookE a with
      | .tup as => chks xs p N sc as && (match swC sc ts as, is, ts with
        | some [x, y], [i, j], [.Name x' _, .Name y' _] => decide (x = x') && decide (y = y') && locN N sc i x && locN N sc j y && decide (i ≠ j) && decide (as.length = 2)
        | some [x, y, z], [i, j, l], [.Name x' _, .Name y' _, .Name z' _] => decide (x = x') && decide (y = y') && decide (z = z') && locN N sc i x && locN N sc j y && locN N sc l z && decide (i ≠ j) && decide (i ≠ l) && decide (j ≠ l) && decide (as.length = 3)
        | _, _, _ => false)
      | _ => false)
    | _ => false)
  | .asg g x, st => (match lookS st with
    | .sub t a => plB p N sc g t && chk x p N sc a
    | _ => false)
  | .asgs gs x, st => (match lookS st with
    | .tup ts a => plsB p N sc gs ts && chk x p N sc a && swN sc ts a
    | _ => false)
  | .app i x, st => (match lookS st with
    | .app y _ a same => decide (N[i]? = some y) && visB sc y && plainName y && chk x p N sc a && same && notStar a
    | _ => false)
  | .expr x, st => (match lookS st with
    | .expr a => chk x p N sc a && noSw a
    | _ => false)
  | .ite t x y, st => (match lookS st with
    | .ite c a b => chk t p N sc c && chkSs p N sc x a && chkSs p N sc y b
    | _ => false)
  | .forS t ik its x, st => (match lookS st with
    | .forS tg iter b => tgB N sc sc t tg && notSet iter && chkSs p N sc x b && (match wArgs ik sc tg iter with
      | some as => chks its p N sc as
      | none => false)
    | _ => false)
  | .whl t x, st => (match lookS st with
    | .whl c b => chk t p N sc c && chkSs p N sc x b
    | _ => false)
  | .ret x, st => (match lookS st with
    | .ret a => chk x p N sc a
    | _ => false)
  | .retv i, st => (match lookS st with
    | .ret a => chk (.var i) p N sc a
    | _ => false)
  | .retN, st => (match lookS st with
    | .retN => true
    | _ => false)
  | .raise c _ xs, st => (match lookS st with
    | .raise y as => decide (c = y) && glB sc c && plainName c && chks xs p N sc as && !as.isEmpty
    | _ => false)
  | .pass, st => (match lookS st with
    | .pass => true
    | _ => false)
  | .brk, st => (match lookS st with
    | .brk => true
    | _ => false)
  | .cnt, st => (match lookS st with
    | .cnt => true
    | _ => false)
  | .frz _, _ => false
def chkSs (p : Pr) (N : List Str) (sc : Scope) : List S → List Stmt → Bool
  | [], [] => true
  | [], _ :: _ => false
  | .frz _ :: ss, sts => chkSs p N sc ss sts
  | s :: ss, st :: sts => chkS p N sc s st && chkSs p N sc ss sts
  | _ :: _, [] => false
end
end VL
end
-- V19
section
set_option Elab.async false
set_option linter.all false
set_option maxRecDepth 100000
set_option maxHeartbeats 4000000
/-! Statements and the text: the theorem. -/
namespace VL
open PySem PySem.Spec PyProof.Rows
open L2 hiding St
structure XS (X : Cx) (Y : Wo) (Θ : Th) (k : Nat) (N : List Str) (sc : Scope) (W : WX) : Prop where
  g : XG X Y Θ k N sc W
  hp : PassesOwn (model X.prog X.w) X.A X.env X.xe
  fn : ∀ x, X.fn x = true
  kd : sc.kind = .function
/-- the reading of an error's making -/
def tMkV (Θ : Th) (e : En) (W : WX) (c : Str) (fs : Env' → M (List R)) (mk : List D → M (List (Str × D))) : St → Hp → XK → Prop := fun σ H Q => ∃ F b ρ P E, EOk Θ e F b H σ ρ ∧ fs ρ (fun rs b' => keptAll rs (fun ds b' => mk ds P E b') E b') E b ∧
  (∀ r b', P r b' → ∀ C d F' H', Ext Θ F b H F' b' H' → RepX Θ F' H' C d ⟨c, r⟩ → Q C d H') ∧ (∀ x b', E x b' → ∀ cls d F' H', Ext Θ F b H F' b' H' → RepX Θ F' H' cls d x → W cls d σ H')
/-- an error's class: what its fields are made of -/
def MkOk (Y : Wo) (Θ : Th) (k : Nat) (c : Str) (mk : List D → M (List (Str × D))) : Prop := ∀ {X : Cx} {N : List Str} {sc : Scope} {W : WX} {e : En} {fs : Env' → M (List R)} {a : Expr} {as : List Expr} {p pos : Pos} {Θ' : Th}, core Θ' = core Θ → XG X Y Θ' k N sc W → glB sc c = true → plainName c = true →
  PA X (a :: as) (tVs Θ' e W fs) → (a :: as).all notStar = true → PMk X (.Call (.Name c p) (a :: as) [] pos) (tMkV Θ' e W c fs mk)
mutual
def CallsS (Y : Wo) (Θ : Th) (k : Nat) : S → Prop
  | .set _ x => CallsOk Y Θ k x
  | .par _ xs => CallsOks Y Θ k xs
  | .asg g x => CallsP Y Θ k g ∧ CallsOk Y Θ k x
  | .asgs gs x => CallsPs Y Θ k gs ∧ CallsOk Y Θ k x
  | .app _ x => CallsOk Y Θ k x
  | .expr x => CallsOk Y Θ k x
  | .ite t x y => CallsOk Y Θ k t ∧ CallsSs Y Θ k x ∧ CallsSs Y Θ k y
  | .forS _ _ its x => CallsOks Y Θ k its ∧ CallsSs Y Θ k x
  | .whl t x => CallsOk Y Θ k t ∧ CallsSs Y Θ k x
  | .ret x => CallsOk Y Θ k x
  | .raise c mk xs => MkOk Y Θ k c mk ∧ CallsOks Y Θ k xs
  | _ => True
def CallsSs (Y : Wo) (Θ : Th) (k : Nat) : List S → Prop
  | [] => True
  | s :: ss => CallsS Y Θ k s ∧ CallsSs Y Θ k ss
def CallsP (Y : Wo) (Θ : Th) (k : Nat) : Pl → Prop
  | .item _ ix => CallsOk Y Θ k ix
  | _ => True
def CallsPs (Y : Wo) (Θ : Th) (k : Nat) : List Pl → Prop
  | [] => True
  | g :: gs => CallsP Y Θ k g ∧ CallsPs Y Θ k gs
end
section
variable {s : Stmt}
theorem lookS_set {x np a} (h : lookS s = .set x np a) : ∃ q, s = .Assign [.Name x np] a q := by unfold lookS at h; split at h <;> first | (cases h; done) | (cases h; exact ⟨_, rfl⟩)
theorem lookS_tup {ts a} (h : lookS s = .tup ts a) : ∃ k p q, s = .Assign [.Tuple ts k p] a q := by unfold lookS at h; split at h <;> first | (cases h; done) | (cases h; exact ⟨_, _, _, rfl⟩)
theorem lookS_sub {t a} (h : lookS s = .sub t a) : ∃ o i p q, t = .Subscript o i p ∧ s = .Assign [.Subscript o i p] a q := by unfold lookS at h; split at h <;> first | (cases h; done) | (cases h; exact ⟨_, _, _, _, rfl, rfl⟩)
theorem lookS_app {x np a b} (h : lookS s = .app x np a b) : ∃ ap cp q, s = .Expr (.Call (.Attribute (.Name x np) "append" ap) [a] [] cp) q ∧ b = (ap.endLine == cp.line) := by unfold lookS at h; split at h <;> first | (cases h; done) | (cases h; exact ⟨_, _, _, rfl, rfl⟩)
theorem lookS_expr {a} (h : lookS s = .expr a) : ∃ q, s = .Expr a q := by unfold lookS at h; split at h <;> first | (cases h; done) | (cases h; exact ⟨_, rfl⟩)
theorem lookS_ite {t a b} (h : lookS s = .ite t a b) : ∃ q, s = .If t a b q := by unfold lookS at h; split at h <;> first | (cases h; done) | (cases h; exact ⟨_, rfl⟩)
theorem lookS_for {t a b} (h : lookS s = .forS t a b) : ∃ q, s = .For t a b [] q := by unfold lookS at h; split at h <;> first | (cases h; done) | (cases h; exact ⟨_, rfl⟩)
theorem lookS_whl {t b} (h : lookS s = .whl t b) : ∃ q, s = .While t b [] q := by unfold lookS at h; split at h <;> first | (cases h; done) | (cases h; exact ⟨_, rfl⟩)
theorem lookS_ret {a} (h : lookS s = .ret a) : ∃ q, s = .Return (some a) q := by unfold lookS at h; split at h <;> first | (cases h; done) | (cases h; exact ⟨_, rfl⟩)
theorem lookS_retN (h : lookS s = .retN) : ∃ q, s = .Return none q := by unfold lookS at h; split at h <;> first | (cases h; done) | (cases h; exact ⟨_, rfl⟩)
theorem lookS_raise {c as} (h : lookS s = .raise c as) : ∃ p q r, s = .Raise (some (.Call (.Name c p) as [] q)) none r := by unfold lookS at h; split at h <;> first | (cases h; done) | (cases h; exact ⟨_, _, _, rfl⟩)
theorem lookS_pass (h : lookS s = .pass) : ∃ q, s = .Pass q := by unfold lookS at h; split at h <;> first | (cases h; done) | (cases h; exact ⟨_, rfl⟩)
theorem lookS_brk (h : lookS s = .brk) : ∃ q, s = .Break q := by unfold lookS at h; split at h <;> first | (cases h; done) | (cases h; exact ⟨_, rfl⟩)
theorem lookS_cnt (h : lookS s = .cnt) : ∃ q, s = .Continue q := by unfold lookS at h; split at h <;> first | (cases h; done) | (cases h; exact ⟨_, rfl⟩)
end
section
variable {X : Cx} {Y : Wo} {Θ : Th} {k : Nat} {N : List Str} {sc : Scope} {W : WX} {e : En} {p : Pr}
theorem pv_name {i : Nat} {x : Str} {q : Pos} (G : XG X Y Θ k N sc W) (h1 : N[i]? = some x) (h2 : visB sc x = true) (h3 : plainName x = true) : PE X (.Name x q) (tVar i) :=
  pe_var (i := i) (by rw [G.hN]; exact h1) (by rw [G.hs]; exact vis_of h2) (plainName_debug h3).1 (plainName_debug h3).2
theorem sub_assign {o i : Expr} {pos : Pos} {env : Env} (hi : notSlice i = true) (v : Value) : assign (.Subscript o i pos) env v = (do
      let ov ← holding [v] (eval o env)
      let iv ← holding [v, ov] (eval i env)
      standAt pos
      holding [v, ov, iv] (setItem ov iv v)
      release [v, ov, iv] []) := by
  cases i <;> first | rfl | cases hi
theorem pg_pl {g : Pl} {a : Expr} (pk : PrOk p Θ X) (G : XS X Y Θ k N sc W) (h : plB p N sc g a = true) (c : CallsP Y (core Θ) k g) : PG X a (pT Θ e W g) ∧ (∀ es, assignEach (a :: es) X.env = (false, assign a X.env) :: assignEach es X.env) := by
  have hu := G.g.room.un
  unfold plB at h
  split at h
  · obtain ⟨h1, _, h3⟩ := pg_nm G.g (fun x _ => G.fn x) h
    exact ⟨h1, h3⟩
  · simp only [Bool.and_eq_true, decide_eq_true_eq] at h
    obtain ⟨⟨⟨⟨h1, h2⟩, h3⟩, h4⟩, h5⟩ := h
    exact ⟨pg_sub (pv_name G.g h1 h2 h3) (snd _ p pk G.g h4 c).1 set_list (sub_assign h5), fun es => rfl⟩
  · simp only [Bool.and_eq_true, decide_eq_true_eq] at h
    obtain ⟨⟨⟨h1, h2⟩, h3⟩, rfl⟩ := h
    exact ⟨pg_sub (pv_name G.g h1 h2 h3) pe_str (set_dict (by omega)) (sub_assign rfl), fun es => rfl⟩
  · cases h
theorem pgs_pls {gs : List Pl} {as : List Expr} (pk : PrOk p Θ X) (G : XS X Y Θ k N sc W) (h : plsB p N sc gs as = true) (c : CallsPs Y (core Θ) k gs) : PGs X as (pTs Θ e W gs) ∧ (assignEach as X.env).length = gs.length ∧ (assignEach as X.env).findIdx? (·.1) = none := by
  induction gs generalizing as with
  | nil =>
    cases as with
    | nil => exact ⟨pgs_nil, rfl, rfl⟩
    | cons => cases h
  | cons g gs ih =>
    cases as with
    | nil => cases h
    | cons a as =>
      unfold plsB at h
      rw [Bool.and_eq_true] at h
      obtain ⟨h1, h2, h3⟩ := ih h.2 c.2
      obtain ⟨g1, g3⟩ := pg_pl (e := e) pk G h.1 c.1
      refine ⟨pgs_cons g1 h1 (by rw [g3]; rfl), by rw [g3, List.length_cons, h2, List.length_cons], ?_⟩
      rw [g3, List.findIdx?_cons]
      simp [h3]
def SndS (p : Pr) (s : S) : Prop := ∀ {X : Cx} {Y : Wo} {Θ : Th} {k : Nat} {N : List Str} {sc : Scope} {W : WX} {e : En} {st : Stmt}, PrOk p Θ X → XS X Y Θ k N sc W → chkS p N sc s st = true → CallsS Y (core Θ) k s → PS X st (tS Θ e W (ex s))
def SndSs (p : Pr) (ss : List S) : Prop := ∀ {X : Cx} {Y : Wo} {Θ : Th} {k : Nat} {N : List Str} {sc : Scope} {W : WX} {e : En} {sts : List Stmt}, PrOk p Θ X → XS X Y Θ k N sc W → chkSs p N sc ss sts = true → CallsSs Y (core Θ) k ss → PSs X sts (tS Θ e W (exs ss))
theorem sto_loc {x : Str} (G : XS X Y Θ k N sc W) (h : stoB sc sc x = true) : Loc X.env.scope x ∧ (X.fn x = true ∨ X.env.scope.names.lookup x = some .local) := by
  refine ⟨?_, .inl (G.fn x)⟩
  unfold stoB at h
  split at h
  · rename_i q; exact .inl (by rw [G.g.hs]; exact q)
  · rename_i q; exact .inr (by rw [G.g.hs]; exact q)
  · cases h
theorem fnkd (G : XS X Y Θ k N sc W) : X.env.scope.kind = .function := by rw [G.g.hs]; exact G.kd
theorem look_lc (elt : Expr) (gs : List Comprehension) (scope : Scope) (pos : Pos) : lookE (.ListComp elt gs scope pos) = .other ∨ ∃ a b c d s, lookE (.ListComp elt gs scope pos) = .comp a b c d s := by
  cases h : lookE (.ListComp elt gs scope pos) <;> first | exact .inl rfl | exact .inr ⟨_, _, _, _, _, rfl⟩ | (exfalso; unfold lookE at h; split at h <;> first | (cases h; done) | (rename_i q; cases q))
theorem chk_lc {p : Pr} {N : List Str} {sc : Scope} {x : E} {elt : Expr} {gs : List Comprehension} {scope : Scope} {pos : Pos} (h : chk x p N sc (.ListComp elt gs scope pos) = true) : ∃ a b c d f g, x = .comp a b c d f g := by
  rcases look_lc elt gs scope pos with q | ⟨_, _, _, _, _, q⟩
  · cases x <;> first | (unfold chk at h; rw [q] at h; cases h; done) | skip
    · rename_i f a b
      cases b <;> (unfold chk at h; rw [q] at h; cases h)
  · cases x <;> first | exact ⟨_, _, _, _, _, _, rfl⟩ | (unfold chk at h; rw [q] at h; cases h; done) | skip
    · rename_i f a b
      cases b <;> (unfold chk at h; rw [q] at h; cases h)
/-- name = [..], stored ahead of the block's end -/
theorem set_comp {i : Nat} {y : Str} {np q pos : Pos} {elt : E} {tg : Tg} {ik : Ik} {its : List E} {ifs : Option E} {own : List (Str × Nat)} {a : Expr} (pk : PrOk p Θ X) (G : XS X Y Θ k N sc W) (hi : N[i]? = some y)
    (h : chk (.comp elt tg ik its ifs own) p N sc a = true) (hw : swK sc y np a = some .lc) (c : CallsOk Y (core Θ) k (.comp elt tg ik its ifs own)) : PS X (.Assign [.Name y np] a pos) (tS Θ e W (setM i (ev (.comp elt tg ik its ifs own)))) := by
  obtain ⟨elt0, gs0, scope0, pos0, rfl, hsw⟩ := swK_lc hw
  obtain ⟨hyl, hst⟩ := swB_true (l := pos.line) (elt := elt0) (gs := gs0) (fnkd G) (by rw [G.g.hs]; exact hsw)
  unfold chk at h
  split at h
  · rename_i elt' tg' iter ifs' scope heq
    obtain ⟨q, hq⟩ := look_comp heq
    cases hq
    simp only [Bool.and_eq_true] at h
    obtain ⟨⟨⟨⟨⟨⟨b1, b2⟩, b3⟩, b4⟩, b5⟩, b6⟩, b7⟩ := h
    split at b6
    case h_2 => cases b6
    rename_i as hwa
    split at b7
    case h_2 => cases b7
    rename_i o ho
    have Gg := G.g
    have L := snds its p (e := e) pk Gg b6 c.2.1
    have bk : BlkOk X.N X.env.scope scope0 own := blkOk_by (by rw [Gg.hN, Gg.hs]; exact b1)
    have hf : ∀ (s : Shared) (H : Hp) (C : Addr) (cl : List (Str × Addr)) (fp : List Addr) (x : Str), scope0.names.lookup x = some .cell → (X.blk s H scope0 (compEnvC scope0 cl C X.env) fp).fn x = true := fun s H C cl fp x z => by
      show (scope0.names.lookup x == some .cell) = true
      rw [z]; rfl
    refine psI (ps_setLc (g := gT X.K tg) (i := i) Gg.calm (by rw [Gg.hN]; exact Gg.nd) (by rw [Gg.hN]; exact hi) hyl hst (w_all (p := p) (N := N) Gg hwa L) bk (fun s H C cl fp => pg_tg (Gg.blk s H scope0 C cl fp) (hf s H C cl fp) b3) (fun s H C cl fp => (sndo ifs p.blk (e := e) pk.blk (Gg.blk s H scope0 C cl fp) b7 c.2.2).2 _ (ifOf_ok ho))
      (fun s H C cl fp => (snd elt p.blk (e := e) pk.blk (Gg.blk s H scope0 C cl fp) b5 c.1).1) (notSet_fold b4)) fun Dn σ H q => ?_
    refine set_tS (f := ev (.comp elt tg ik its ifs own)) (fun σ H Q q => ?_) q
    show tLc _ (gT X.K tg) _ _ _ σ H Q
    rw [Gg.hK]
    exact comp_tV (fun i hi => by simpa using List.all_eq_true.mp b2 i hi) q
  · cases h
theorem sndS_set {i : Nat} {x : E} : SndS p (.set i x) := fun {X Y Θ k N sc W e st} pk G h c => by
  unfold chkS at h
  split at h
  · rename_i y np a heq
    obtain ⟨q, rfl⟩ := lookS_set heq
    simp only [Bool.and_eq_true, decide_eq_true_eq] at h
    obtain ⟨⟨⟨h1, h2⟩, h3⟩, h4⟩ := h
    cases hk : swK sc y np a with
    | none => rw [hk] at h4; cases h4
    | some w =>
      cases w with
      | no =>
        obtain ⟨l1, l2⟩ := sto_loc G h2
        exact psI (ps_set (by rw [G.g.hN]; exact G.g.nd) (by rw [G.g.hN]; exact h1) l1 (snd x p (e := e) pk G.g h3 c).1 (swK_no (fnkd G) (by rw [G.g.hs]; exact hk)) l2) fun Dn σ H q => set_tS (fun σ H Q q => q) q
      | lc =>
        obtain ⟨elt0, gs0, scope0, pos0, rfl, _⟩ := swK_lc hk
        obtain ⟨_, _, _, _, _, _, rfl⟩ := chk_lc h3
        exact set_comp (q := q) pk G h1 h3 hk c
  · cases h
end
end VL
end
-- V20
section
set_option Elab.async false
set_option linter.all false
set_option maxRecDepth 100000
set_option maxHeartbeats 4000000
/-! Statements and the text: each form, the theorem. -/
namespace VL
open PySem PySem.Spec PyProof.Rows
open L2 hiding St
section
variable {p : Pr}
theorem locN_ok {X : Cx} {Y : Wo} {Θ : Th} {k : Nat} {N : List Str} {sc : Scope} {W : WX} {i : Nat} {x : Str} (G : XS X Y Θ k N sc W) (h : locN N sc i x = true) : X.N[i]? = some x ∧ X.env.scope.names.lookup x = some .local := by
  unfold locN at h
  simp only [Bool.and_eq_true, decide_eq_true_eq] at h
  exact ⟨by rw [G.g.hN]; exact h.1, by rw [G.g.hs]; exact h.2⟩
theorem len2 {α : Type} {l : List α} (h : l.length = 2) : ∃ a b, l = [a, b] := by
  match l, h with
  | [a, b], _ => exact ⟨a, b, rfl⟩
theorem len3 {α : Type} {l : List α} (h : l.length = 3) : ∃ a b c, l = [a, b, c] := by
  match l, h with
  | [a, b, c], _ => exact ⟨a, b, c, rfl⟩
theorem vsI {Θ : Th} {e : En} {W : WX} {fs : Env' → M (List R)} {σ : St} {H : Hp} {T T' : List V → Hp → Prop} (h : tVs Θ e W fs σ H T) (i : ∀ vs H1, T vs H1 → T' vs H1) : tVs Θ e W fs σ H T' := by
  obtain ⟨F, b, ρ, P, E, ok, m, p1, p2⟩ := h
  exact ⟨F, b, ρ, P, E, ok, m, fun r b1 m1 vs F1 H1 x1 r1 => i _ _ (p1 r b1 m1 vs F1 H1 x1 r1), p2⟩
theorem sndS_par {is : List Nat} {xs : List E} : SndS p (.par is xs) := fun {X Y Θ k N sc W e st} pk G h c => by
  unfold chkS at h
  split at h
  · rename_i ts a heq
    obtain ⟨kk, pp, q, rfl⟩ := lookS_tup heq
    split at h
    · rename_i as heq2
      obtain ⟨k2, p2, rfl⟩ := look_tup heq2
      rw [Bool.and_eq_true] at h
      obtain ⟨h1, h2⟩ := h
      have L := snds xs p (e := e) pk G.g h1 c
      split at h2
      · rename_i x y i j x' p3 y' p4 hsw
        simp only [Bool.and_eq_true, decide_eq_true_eq] at h2
        obtain ⟨⟨⟨⟨⟨rfl, rfl⟩, n1⟩, n2⟩, n3⟩, n4⟩ := h2
        obtain ⟨a1, a2, rfl⟩ := len2 n4
        obtain ⟨i1, i2⟩ := locN_ok G n1
        obtain ⟨j1, j2⟩ := locN_ok G n2
        have sw := swC_ok (env := X.env) (k := kk) (k2 := k2) (p := pp) (p2 := p2) (fnkd G) (by rw [G.g.hs]; exact hsw)
        refine psI (ps_par G.g.calm (by rw [G.g.hN]; exact G.g.nd) i1 j1 n3 i2 j2 L.pa sw sw_tupS) fun Dn σ H q => ?_
        refine vsI (par_tS q) fun vs H1 hh => ?_
        obtain ⟨v, w, rfl⟩ := len2 hh.1
        exact ⟨v, w, rfl, hh.2⟩
      · rename_i x y z i j l x' p3 y' p4 z' p5 hsw
        simp only [Bool.and_eq_true, decide_eq_true_eq] at h2
        obtain ⟨⟨⟨⟨⟨⟨⟨⟨⟨rfl, rfl⟩, rfl⟩, n1⟩, n2⟩, n3⟩, n4⟩, n5⟩, n6⟩, n7⟩ := h2
        obtain ⟨a1, a2, a3, rfl⟩ := len3 n7
        obtain ⟨i1, i2⟩ := locN_ok G n1
        obtain ⟨j1, j2⟩ := locN_ok G n2
        obtain ⟨l1, l2⟩ := locN_ok G n3
        have sw := swC_ok (env := X.env) (k := kk) (k2 := k2) (p := pp) (p2 := p2) (fnkd G) (by rw [G.g.hs]; exact hsw)
        refine psI (ps_par3 G.g.calm (by rw [G.g.hN]; exact G.g.nd) i1 j1 l1 n4 n5 n6 i2 j2 l2 L.pa sw sw_tupS) fun Dn σ H q => ?_
        refine vsI (par_tS q) fun vs H1 hh => ?_
        obtain ⟨u, v, w, rfl⟩ := len3 hh.1
        exact ⟨u, v, w, rfl, hh.2⟩
      · cases h2
    · cases h
  · cases h
theorem sndS_asg {g : Pl} {x : E} : SndS p (.asg g x) := fun {X Y Θ k N sc W e st} pk G h c => by
  unfold chkS at h
  split at h
  · rename_i t a heq
    obtain ⟨o, i, pp, q, rfl, rfl⟩ := lookS_sub heq
    rw [Bool.and_eq_true] at h
    obtain ⟨g1, g3⟩ := pg_pl (e := e) pk G h.1 c.1
    exact psI (ps_asg (snd x p (e := e) pk G.g h.2 c.2).1 g1 sw_subS sw_sub_none (by rw [g3]; rfl)) fun Dn σ H q => asg_tS q
  · cases h
theorem sndS_asgs {gs : List Pl} {x : E} : SndS p (.asgs gs x) := fun {X Y Θ k N sc W e st} pk G h c => by
  unfold chkS at h
  split at h
  · rename_i ts a heq
    obtain ⟨kk, pp, q, rfl⟩ := lookS_tup heq
    simp only [Bool.and_eq_true] at h
    obtain ⟨⟨h1, h2⟩, h3⟩ := h
    obtain ⟨g1, g2, g3⟩ := pgs_pls (e := e) pk G h1 c.1
    refine psI (ps_asg (snd x p (e := e) pk G.g h2 c.2).1 (pg_tup G.g.calm g1 g2 g3) sw_tupS (swN_ok (by rw [G.g.hs]; exact h3)) rfl) fun Dn σ H q => ?_
    rw [G.g.hK]
    exact asgs_tS q
  · cases h
theorem sndS_app {i : Nat} {x : E} : SndS p (.app i x) := fun {X Y Θ k N sc W e st} pk G h c => by
  unfold chkS at h
  split at h
  · rename_i y np a same heq
    obtain ⟨ap, cp, q, rfl, rfl⟩ := lookS_app heq
    simp only [Bool.and_eq_true, decide_eq_true_eq] at h
    obtain ⟨⟨⟨⟨⟨h1, h2⟩, h3⟩, h4⟩, h5⟩, h6⟩ := h
    have st := starEach_ns (es := []) (env := X.env) h6
    refine psI (ps_expr (pe_bm PySem.F.plainAttrs_list PySem.F.slot_list_append PySem.F.type_list_append mt_append (pv_name (q := np) G.g h1 h2 h3) (pa_cons (snd x p (e := e) pk G.g h4 c).1 pa_nil st) (attr_plain rfl) (by rw [st]; rfl) h5 st rfl) rfl) fun Dn σ H q => ?_
    rw [G.g.hK]
    exact app_tS q
  · cases h
theorem sndS_expr {x : E} : SndS p (.expr x) := fun {X Y Θ k N sc W e st} pk G h c => by
  unfold chkS at h
  split at h
  · rename_i a heq
    obtain ⟨q, rfl⟩ := lookS_expr heq
    rw [Bool.and_eq_true] at h
    exact psI (ps_expr (snd x p (e := e) pk G.g h.1 c).1 (sw_no h.2)) fun Dn σ H q => expr_tS q
  · cases h
theorem sndS_ite {t : E} {x y : List S} (hx : SndSs p x) (hy : SndSs p y) : SndS p (.ite t x y) := fun {X Y Θ k N sc W e st} pk G h c => by
  unfold chkS at h
  split at h
  · rename_i c' a b heq
    obtain ⟨q, rfl⟩ := lookS_ite heq
    simp only [Bool.and_eq_true] at h
    exact psI (ps_if (snd t p (e := e) pk G.g h.1.1 c.1).2 (hx pk G h.1.2 c.2.1) (hy pk G h.2 c.2.2)) fun Dn σ H q => ite_tS q
  · cases h
theorem sndS_for {t : Tg} {ik : Ik} {its : List E} {x : List S} (hx : SndSs p x) : SndS p (.forS t ik its x) := fun {X Y Θ k N sc W e st} pk G h c => by
  unfold chkS at h
  split at h
  · rename_i tg iter b heq
    obtain ⟨q, rfl⟩ := lookS_for heq
    simp only [Bool.and_eq_true] at h
    obtain ⟨⟨⟨h1, h2⟩, h3⟩, h4⟩ := h
    split at h4
    case h_2 => cases h4
    rename_i as hw
    have L := snds its p (e := e) pk G.g h4 c.1
    refine psI (ps_for (g := gT X.K t) G.hp G.g.calm (w_all (p := p) (N := N) G.g hw L) (pg_tg G.g (fun x _ => G.fn x) h1) (hx (e := e) pk G h3 c.2) (notSet_fold h2)) fun Dn σ H q => ?_
    show tFor _ (gT X.K t) _ Dn σ H
    rw [G.g.hK]
    exact for_tS q
  · cases h
theorem sndS_whl {t : E} {x : List S} (hx : SndSs p x) : SndS p (.whl t x) := fun {X Y Θ k N sc W e st} pk G h c => by
  unfold chkS at h
  split at h
  · rename_i c' b heq
    obtain ⟨q, rfl⟩ := lookS_whl heq
    rw [Bool.and_eq_true] at h
    exact psI (ps_while G.hp (snd t p (e := e) pk G.g h.1 c.1).2 (hx pk G h.2 c.2)) fun Dn σ H q => whl_tS q
  · cases h
theorem sndS_ret {x : E} : SndS p (.ret x) := fun {X Y Θ k N sc W e st} pk G h c => by
  unfold chkS at h
  split at h
  · rename_i a heq
    obtain ⟨q, rfl⟩ := lookS_ret heq
    exact psI (ps_ret (snd x p (e := e) pk G.g h c).1) fun Dn σ H q => ret_tS q
  · cases h
theorem sndS_retv {i : Nat} : SndS p (.retv i) := fun {X Y Θ k N sc W e st} pk G h c => by
  unfold chkS at h
  split at h
  · rename_i a heq
    obtain ⟨q, rfl⟩ := lookS_ret heq
    unfold chk at h
    split at h
    · rename_i x heq2
      obtain ⟨q2, rfl⟩ := look_nm heq2
      simp only [Bool.and_eq_true, decide_eq_true_eq] at h
      exact psI (ps_ret (pv_name G.g h.1.1 h.1.2 h.2)) fun Dn σ H q => retv_tS q
    · cases h
  · cases h
theorem sndS_retN : SndS p .retN := fun {X Y Θ k N sc W e st} pk G h c => by
  unfold chkS at h
  split at h
  · rename_i heq
    obtain ⟨q, rfl⟩ := lookS_retN heq
    exact psI ps_retN fun Dn σ H q => retN_tS q
  · cases h
theorem sndS_raise {cn : Str} {mk : List D → M (List (Str × D))} {xs : List E} : SndS p (.raise cn mk xs) := fun {X Y Θ k N sc W e st} pk G h c => by
  unfold chkS at h
  split at h
  · rename_i y as heq
    obtain ⟨q1, q2, q3, rfl⟩ := lookS_raise heq
    simp only [Bool.and_eq_true, decide_eq_true_eq] at h
    obtain ⟨⟨⟨⟨rfl, h2⟩, h3⟩, h4⟩, h5⟩ := h
    have L := snds xs p (e := e) pk G.g h4 c.2
    cases as with
    | nil => cases h5
    | cons a as =>
      refine psI (ps_raise G.g.calm G.g.tk (c.1 (Θ' := Θ) rfl G.g h2 h3 L.pa L.ns)) fun Dn σ H q => ?_
      obtain ⟨F, b, ρ, K, ok, m, pp⟩ := q
      refine ⟨F, b, ρ, _, K.exE ρ, ok, m, fun r b1 hr C d F1 H1 x1 rx => ?_, pp.exE ok⟩
      exact pp.ex _ _ _ hr _ _ _ _ _ (Lat.of x1 ok.wd) (ok.ext x1) rx
  · cases h
theorem sndS_pass : SndS p .pass := fun {X Y Θ k N sc W e st} pk G h c => by
  unfold chkS at h
  split at h
  · rename_i heq
    obtain ⟨q, rfl⟩ := lookS_pass heq
    exact psI ps_pass fun Dn σ H q => nx_tS q
  · cases h
theorem sndS_brk : SndS p .brk := fun {X Y Θ k N sc W e st} pk G h c => by
  unfold chkS at h
  split at h
  · rename_i heq
    obtain ⟨q, rfl⟩ := lookS_brk heq
    exact psI ps_break fun Dn σ H q => bk_tS q
  · cases h
theorem sndS_cnt : SndS p .cnt := fun {X Y Θ k N sc W e st} pk G h c => by
  unfold chkS at h
  split at h
  · rename_i heq
    obtain ⟨q, rfl⟩ := lookS_cnt heq
    exact psI ps_continue fun Dn σ H q => ct_tS q
  · cases h
theorem sndSs_nil : SndSs p [] := fun {X Y Θ k N sc W e sts} pk G h c => by
  cases sts with
  | nil => exact pssI pss_nil fun Dn σ H q => nx_tS q
  | cons => cases h
theorem sndSs_frz {i : Nat} {ss : List S} (h2 : SndSs p ss) : SndSs p (.frz i :: ss) := fun {X Y Θ k N sc W e sts} pk G h c =>
  pssI (h2 pk G h c.2) fun Dn σ H q => frz_tS q
theorem sndSs_cons {s : S} {ss : List S} (hn : ∀ i, s ≠ .frz i) (h1 : SndS p s) (h2 : SndSs p ss) : SndSs p (s :: ss) := fun {X Y Θ k N sc W e sts} pk G h c => by
  cases sts with
  | nil => cases s <;> first | cases h | exact absurd rfl (hn _)
  | cons st sts =>
    have h' : (chkS p N sc s st && chkSs p N sc ss sts) = true := by
      cases s <;> first | exact h | exact absurd rfl (hn _)
    rw [Bool.and_eq_true] at h'
    exact pssI (pss_cons (h1 (e := e) pk G h'.1 c.1) (h2 (e := e) pk G h'.2 c.2)) fun Dn σ H q => seq_tS q
theorem sndS_frz {i : Nat} : SndS p (.frz i) := fun {X Y Θ k N sc W e st} pk G h c => by cases h
mutual
theorem sndS (p : Pr) : ∀ s : S, SndS p s
  | .set _ _ => sndS_set
  | .par _ _ => sndS_par
  | .asg _ _ => sndS_asg
  | .asgs _ _ => sndS_asgs
  | .app _ _ => sndS_app
  | .expr _ => sndS_expr
  | .ite _ x y => sndS_ite (sndSs p x) (sndSs p y)
  | .forS _ _ _ x => sndS_for (sndSs p x)
  | .whl _ x => sndS_whl (sndSs p x)
  | .ret _ => sndS_ret
  | .retv _ => sndS_retv
  | .retN => sndS_retN
  | .raise _ _ _ => sndS_raise
  | .pass => sndS_pass
  | .brk => sndS_brk
  | .cnt => sndS_cnt
  | .frz _ => sndS_frz
theorem sndSs (p : Pr) : ∀ ss : List S, SndSs p ss
  | [] => sndSs_nil
  | s :: ss => by
    by_cases q : ∃ i, s = .frz i
    · obtain ⟨i, rfl⟩ := q
      exact sndSs_frz (sndSs p ss)
    · exact sndSs_cons (fun i z => q ⟨i, z⟩) (sndS p s) (sndSs p ss)
end
end
end VL
end
-- V21
section
set_option Elab.async false
set_option linter.all false
set_option maxRecDepth 100000
set_option maxHeartbeats 4000000
/-! Functions: a def of the text computes what its statements tell. -/
namespace VL
open PySem PySem.Spec PyProof.Rows
open L2 hiding St
/-- the check's lists are the law's -/
structure PrG (p : Pr) (Θ : Th) : Prop where
  f : p.flds = Θ.flds
  i : p.ins = Θ.ins
  g : p.gcd = true → Θ.gcdOn = true
  m : p.mode = 0
theorem PrG.ok {p : Pr} {Θ : Th} {X : Cx} (k : PrG p Θ) (h : Θ.cells = none) : PrOk p Θ X := ⟨k.f, k.i, k.g, fun _ => h, fun z => absurd k.m z, fun z => (by rw [k.m] at z; cases z), fun z => absurd k.m z⟩
/-- what a law fixes -/
structure GG (Y : Wo) (Θ : Th) : Prop where
  hK : Y.K = Θ.K
  glb : ∀ x a, Θ.glb x = some a → Y.mg x = some (.ref a)
  free : ∀ x ∈ freeNames, Y.mg x = none
  gcd : Θ.gcdOn = true → Y.mg "gcd" = some (.builtin "math.gcd")
  ins : ∀ c ∈ Θ.ins, ∀ C, Θ.glb c = some C → Cls Θ.K C ∧ ∀ f ∈ Θ.flds, NoAttr Θ.K C f
  isi : IsiG Θ
/-- a def's promise, where nothing is being shown -/
structure FnG (Y : Wo) (k : Nat) (f : Addr) (fd : FuncData) (ps : List Str) (sp : Sp) : Prop where
  len : ∀ vs H Q E, sp vs H Q E → vs.length = ps.length
  go : ∀ (A : Around) (fr : List Env) (s : Shared) (H : Hp) (args : Args) (us : List Value) (vs : List V) (Q : VK) (E : XK), Room k A → A.guards = some [] → Env0 Y.P Y.w Y.K Y.mg Y.base A fr s H → BindsTo s fd args (ps.zip us) → Vals vs us → sp vs H Q E →
    codeAny (model Y.P Y.w) A (.call (.ref f) args) (CR (L2.CX Y.P Y.w) fr Y.P Y.w H s Q E) s
abbrev bodyX (Y : Wo) (N : List Str) (qual : Str) (scope : Scope) (f : Addr) (cdv : Value) (A : Around) (fr : List Env) (s : Shared) (H : Hp) (E : XK) : Cx := cxOf (L2.CX Y.P Y.w) Y.P Y.w Y.K Y.mg Y.base N qual scope f cdv A fr s H E
theorem fnG_of {Y : Wo} {k : Nat} {f : Addr} {name qual : Str} {params : Arguments} {body : List Stmt} {scope : Scope} {dV kV doc pm cdv ct oc : Value} {an od : Option Addr} {osl : Array (Option Value)} {N ps : List Str} {sp : Sp}
    (lk : Y.K.lookup f = some ⟨oc, od, .func (PySem.W.fnOf name qual params body scope dV kV doc pm an cdv ct), osl⟩) (hcd : PySem.W.codeIn Y.K cdv qual = true) (S : FnScope N ps scope) (len : ∀ vs H Q E, sp vs H Q E → vs.length = ps.length)
    (hbody : ∀ (A : Around) (fr : List Env) (s : Shared) (H : Hp) (vs : List V) (Q : VK) (E : XK), Room k (A.deeper (envOfC qual scope s.heap.objs.size f cdv)) → (A.deeper (envOfC qual scope s.heap.objs.size f cdv)).guards = some [] → sp vs H Q E →
      ∃ t, PSs (bodyX Y N qual scope f cdv A fr s H E) body t ∧ t { nx := fun _ H' => Q .non H', rt := Q } (start N vs) H) :
    FnG Y (k + 1) f (PySem.W.fnOf name qual params body scope dV kV doc pm an cdv ct) ps sp := by
  refine ⟨len, fun A fr s H args us vs Q E hr hg e0 hb r hsp => ?_⟩
  have inK : Y.K.In s.heap := e0.mod.kin.keeps fun b o q => (e0.bs b o q).1
  have nol : s.heap.NoLimit := e0.mod.nolimit.keeps fun b o q => (e0.bs b o q).1
  refine codeAny_call_function hr.depth (inK _ _ lk) rfl S.co S.gen rfl (PySem.W.codeRec_of inK hcd) (hb _ _ _ _ ?_)
  refine wpAny_newFunctionEnv_cells S.kind (fun y hy => ?_) fun env he s1 x => ?_
  · obtain ⟨n, v⟩ := y
    rcases S.par n (List.of_mem_zip hy).1 with q | q
    · exact .inl q
    · exact .inr ⟨q, PySem.W.cellsFrom_some _ _ _ (.inl q)⟩
  subst he
  refine ⟨nol.keeps x.toInCall.keep, codeAny_func ?_⟩
  obtain ⟨t, ht, hq⟩ := hbody A fr s H vs Q E (hr.deeper _) hg hsp
  have Iv : Inv (bodyX Y N qual scope f cdv A fr s H E) [] (start N vs) H s1 := inv_start S hr.hd e0 (len _ _ _ _ hsp) r x
  refine wpAny_mono (ht.run [] s1 (start N vs) H _ Iv hq) (fun fl s2 hs => ?_) fun u s2 hs => hs
  cases fl with
  | ret u =>
    obtain ⟨v, σ', H', J, rv, q⟩ := hs
    exact ⟨v, H', J.os, J.bare, J.base, J.hok, rv, q⟩
  | next =>
    obtain ⟨σ', H', J, q⟩ := hs
    exact ⟨V.non, H', J.os, J.bare, J.base, J.hok, rfl, q⟩
  | brk =>
    obtain ⟨_, _, _, q⟩ := hs
    exact q.elim
  | cont =>
    obtain ⟨_, _, _, q⟩ := hs
    exact q.elim
/-- such a def may be called -/
theorem cal_of {Y : Wo} {k : Nat} {x : Str} {f : Addr} {fd : FuncData} {ps : List Str} {sp : Sp} (F : FnG Y k f fd ps sp) (hm : Y.mg x = some (.ref f)) (hk : PySem.W.keepIn Y.K (.ref f) = true) (hb : Binds Y.K fd ps []) : Cal Y k x sp := by
  have inK : ∀ {A : Around} {fr : List Env} {s : Shared} {H : Hp}, Env0 Y.P Y.w Y.K Y.mg Y.base A fr s H → Y.K.In s.heap := fun e0 => e0.mod.kin.keeps fun b o q => (e0.bs b o q).1
  refine ⟨f, hm, hk, fun X hP hw hKK hmg hbs hr hg W tk pins s σ H us vs Q Iv r h => ?_, fun A fr s H us vs Q E hr hg e0 r h => ?_⟩
  rotate_left
  · have hl : us.length = ps.length := by rw [← r.length]; exact F.len _ _ _ _ h
    have bb := hb s us (inK e0) (by rw [List.append_nil]; exact hl)
    rw [List.append_nil] at bb
    exact F.go A fr s H ⟨us, []⟩ us vs Q E hr hg e0 bb r h
  have hl : us.length = ps.length := by rw [← r.length]; exact F.len _ _ _ _ h
  have bb := hb s us (by rw [← hKK]; exact Iv.kIn) (by rw [List.append_nil]; exact hl)
  rw [List.append_nil] at bb
  have e0 := Iv.env0
  rw [hP, hw, hKK, hmg, hbs] at e0
  have q := F.go X.A X.stack s H ⟨us, []⟩ us vs Q _ hr hg e0 bb r h
  rw [← hP, ← hw] at q
  refine wpAny_call (codeAny_mono q fun fl s2 hq => ?_)
  cases fl with
  | error u => exact passAt tk σ pins H s u s2 Iv hq
  | ok fl =>
    cases fl with
    | ret u => exact Iv.after hq
    | next => exact hq.elim
    | brk => exact hq.elim
    | cont => exact hq.elim
/-- the names' values at the start -/
def startE (n : Nat) (ds : List D) : Env' := ds.map (fun d => some (R.val d)) ++ List.replicate (n - ds.length) none
/-- what a def computes -/
def defM (n np : Nat) (ss : List S) (ds : List D) : M R := fun P E b => ds.length = np ∧ exs ss (startE n ds) ⟨fun _ b' => P (.val .non) b', P, fun _ _ => False, fun _ _ => False, fun x _ b' => E x b'⟩ b
theorem start_ok {Θ : Th} {F : Addr → Prop} {b : Nat} {H : Hp} {N : List Str} {vs : List V} {ds : List D} (w : Wd Θ F b H) (rl : RepL Θ F H vs ds) : EnvOk Θ F b H F b H (start N vs) (startE N.length ds) := by
  have hl := rl.length
  have at_ : ∀ (i : Nat) (r : R), (startE N.length ds)[i]? = some (some r) → ∃ d, r = .val d ∧ ds[i]? = some d := fun i r h => by
    unfold startE at h
    by_cases hi : i < ds.length
    · rw [List.getElem?_append_left (by simpa using hi), List.getElem?_map, List.getElem?_eq_getElem hi] at h
      cases h
      exact ⟨_, rfl, List.getElem?_eq_getElem hi⟩
    · rw [List.getElem?_append_right (by simpa using Nat.le_of_not_lt hi), List.getElem?_replicate] at h
      split at h <;> cases h
  refine ⟨w, w, .refl, ?_, fun i r h => ?_, fun i j d d' a h1 _ _ _ => ?_⟩
  · unfold startE L2.start
    simp [hl]
  · obtain ⟨d, rfl, hd⟩ := at_ i r h
    obtain ⟨v, hv, rv⟩ := rl.get hd
    refine ⟨v, ?_, rv⟩
    have hi : i < vs.length := by
      rcases Nat.lt_or_ge i vs.length with q | q
      · exact q
      · rw [List.getElem?_eq_none q] at hv; cases hv
    unfold L2.start
    rw [List.getElem?_append_left (by simpa using hi), List.getElem?_map, hv]
    rfl
  · obtain ⟨d2, e, _⟩ := at_ i _ h1
    cases e
theorem fnM_of {Y : Wo} {Θ : Th} {k : Nat} {x : Str} {f : Addr} {name qual : Str} {params : Arguments} {body : List Stmt} {scope : Scope} {dV kV doc pm cdv ct oc : Value} {an od : Option Addr} {osl : Array (Option Value)} {N ps : List Str} {ss : List S} {p : Pr}
    (G : GG Y Θ) (pk : PrG p Θ) (lk : Y.K.lookup f = some ⟨oc, od, .func (PySem.W.fnOf name qual params body scope dV kV doc pm an cdv ct), osl⟩) (hcd : PySem.W.codeIn Y.K cdv qual = true) (S : FnScope N ps scope)
    (hm : Y.mg x = some (.ref f)) (hk : PySem.W.keepIn Y.K (.ref f) = true) (hb : Binds Y.K (PySem.W.fnOf name qual params body scope dV kV doc pm an cdv ct) ps []) (hc : chkSs p N scope ss body = true) (cs : CallsSs Y (core Θ) k ss) :
    FnM Y Θ (k + 1) x (defM N.length ps.length ss) := by
  refine cal_of (fnG_of lk hcd S (fun vs H Q E h => ?_) fun A fr s H vs Q E hr hg h => ?_) hm hk hb
  · obtain ⟨pa, pc, cm, F, b, ds, P', E', Θ', eΘ, rl, w, m, _⟩ := h
    rw [rl.length, m.1]
  · obtain ⟨pa, pc, cm, F, b, ds, P', E', Θ', rfl, rl, w, m, p1, p2⟩ := h
    let e : En := ⟨F, b, H⟩
    let Θ' : Th := { Θ with pa := pa, pc := pc, cm := cm, cells := none }
    refine ⟨tS Θ' e (fun cls d _ H' => E cls d H') (exs ss), sndSs p ss (Θ := Θ') (Y := Y) (k := k) (N := N) (sc := scope) (PrG.ok ⟨pk.f, pk.i, pk.g, pk.m⟩ rfl) ⟨⟨rfl, rfl, rfl, rfl, rfl, G.hK, rfl, S.nd, rfl, rfl, hr, hg, ?_, G.glb, G.free, G.gcd, G.ins, ?_⟩, ?_, fun _ => rfl, S.kind⟩ hc cs, ?_⟩
    · exact takes_of rfl rfl rfl rfl
    · exact ⟨G.isi.at_, G.isi.of, G.isi.sp, G.isi.ty, G.isi.bt, G.isi.cc⟩
    · exact passes_of rfl
    · refine ⟨F, b, _, _, start_ok w rl, m.2, ⟨fun ρ' b' h σ' F' H' l ok => p1 _ _ h _ _ _ ok.en Rep.non, fun _ _ h => h.elim, fun _ _ h => h.elim, fun r b' h v F' H' x r' => p1 _ _ h _ _ _ x r', fun z ρ' b' h cls d σ' F' H' l ok rx => p2 _ _ h _ _ _ _ ok.en rx⟩⟩
end VL
end
-- V22
section
set_option Elab.async false
set_option linter.all false
set_option maxRecDepth 100000
set_option maxHeartbeats 4000000
/-! The pen's draw. -/
namespace VL
open PySem PySem.Spec PyProof.Rows
open L2 hiding St
/-- the text of the draw, its places left open -/
def drawAst (q : Nat → Pos) : List Stmt := [(.Assign [(.Subscript (.Name "pen" (q 0)) (.Constant (.str "count") 0 (q 1)) (q 2))] (.BinOp (.Subscript (.Name "pen" (q 3)) (.Constant (.str "count") 0 (q 4)) (q 5)) .Add (.Constant (.int 1) 0 (q 6)) (q 7)) (q 8)), (.If (.BoolOp .And [(.Compare (.Subscript (.Name "pen" (q 9)) (.Constant (.str "digits") 0 (q 10)) (q 11)) [.Eq] [(.Constant (.int 0) 0 (q 12))] (q 13)), (.Compare (.Subscript (.Name "pen" (q 14)) (.Constant (.str "at") 0 (q 15)) (q 16)) [.Lt] [(.Call (.Name "len" (q 17)) [(.Subscript (.Name "pen" (q 18)) (.Constant (.str "cells") 0 (q 19)) (q 20))] [] (q 21))] (q 22))] (q 23)) [(.Assign [(.Name "cell" (q 24))] (.Subscript (.Subscript (.Name "pen" (q 25)) (.Constant (.str "cells") 0 (q 26)) (q 27)) (.Subscript (.Name "pen" (q 28)) (.Constant (.str "at") 0 (q 29)) (q 30)) (q 31)) (q 32)), (.Assign [(.Subscript (.Name "pen" (q 33)) (.Constant (.str "at") 0 (q 34)) (q 35))] (.BinOp (.Subscript (.Name "pen" (q 36)) (.Constant (.str "at") 0 (q 37)) (q 38)) .Add (.Constant (.int 1) 0 (q 39)) (q 40)) (q 41)), (.If (.Compare (.Name "cell" (q 42)) [.GtE] [(.BinOp (.Constant (.int 10) 0 (q 43)) .Pow (.Constant (.int 18) 0 (q 44)) (q 45))] (q 46)) [(.Assign [(.Subscript (.Name "pen" (q 47)) (.Constant (.str "digits") 0 (q 48)) (q 49))] (.BinOp (.Name "cell" (q 50)) .Sub (.BinOp (.Constant (.int 10) 0 (q 51)) .Pow (.Constant (.int 18) 0 (q 52)) (q 53)) (q 54)) (q 55))] [(.Assign [(.Subscript (.Name "pen" (q 56)) (.Constant (.str "fold") 0 (q 57)) (q 58))] (.BinOp (.Call (.Name "int" (q 59)) [(.BinOp (.BinOp (.Subscript (.Name "pen" (q 60)) (.Constant (.str "fold") 0 (q 61)) (q 62)) .Mult (.Constant (.int 31013) 0 (q 63)) (q 64)) .Add (.Name "cell" (q 65)) (q 66))] [] (q 67)) .Mod (.Constant (.int 2147482909) 0 (q 68)) (q 69)) (q 70))] (q 71))] [] (q 72)), (.If (.Compare (.Subscript (.Name "pen" (q 73)) (.Constant (.str "digits") 0 (q 74)) (q 75)) [.Gt] [(.Constant (.int 0) 0 (q 76))] (q 77)) [(.Assign [(.Name "digit" (q 78))] (.BinOp (.Call (.Name "int" (q 79)) [(.Subscript (.Name "pen" (q 80)) (.Constant (.str "digits") 0 (q 81)) (q 82))] [] (q 83)) .Mod (.Name "many" (q 84)) (q 85)) (q 86)), (.Assign [(.Subscript (.Name "pen" (q 87)) (.Constant (.str "digits") 0 (q 88)) (q 89))] (.BinOp (.Subscript (.Name "pen" (q 90)) (.Constant (.str "digits") 0 (q 91)) (q 92)) .FloorDiv (.Name "many" (q 93)) (q 94)) (q 95)), (.Return (some (.Name "digit" (q 96))) (q 97))] [] (q 98)), (.Assign [(.Name "blend" (q 99))] (.BinOp (.BinOp (.Subscript (.Name "pen" (q 100)) (.Constant (.str "fold") 0 (q 101)) (q 102)) .Add (.BinOp (.Subscript (.Name "pen" (q 103)) (.Constant (.str "count") 0 (q 104)) (q 105)) .Mult (.Constant (.int 6317) 0 (q 106)) (q 107)) (q 108)) .Add (.Constant (.int 191) 0 (q 109)) (q 110)) (q 111)), (.Return (some (.BinOp (.BinOp (.Call (.Name "int" (q 112)) [(.BinOp (.BinOp (.Name "blend" (q 113)) .Pow (.Constant (.int 53) 0 (q 114)) (q 115)) .Mod (.Constant (.int 2305843009213693951) 0 (q 116)) (q 117))] [] (q 118)) .FloorDiv (.Constant (.int 2048) 0 (q 119)) (q 120)) .Mod (.Name "many" (q 121)) (q 122))) (q 123))]
def drawN : List Str := ["pen", "many", "blend", "cell", "digit"]
/-- any whole number below the bound, one draw of the budget -/
def drawM (ds : List D) : M R := fun P _ b => match ds with
  | [.pen, .int many] => 1 ≤ b ∧ 0 < many ∧ many < 2 ^ 64 ∧ ∀ r : Int, 0 ≤ r → r < many → P (.val (.int r)) (b - 1)
  | _ => False
def penL (cl : Addr) (at_ dg ct fo : Int) : List (Key × V) := [(.inr "cells", .ref cl), (.inr "at", .int at_), (.inr "digits", .int dg), (.inr "count", .int ct), (.inr "fold", .int fo)]
theorem k_ne {a b : Str} (h : a ≠ b) : ¬ (Sum.inr a : Key) = Sum.inr b := fun z => h (Sum.inr.inj z)
section
variable {cl : Addr} {at_ dg ct fo x : Int}
theorem pen_cells : valV (penL cl at_ dg ct fo) (.inr "cells") = some (.ref cl) := valV_pos rfl
theorem pen_at : valV (penL cl at_ dg ct fo) (.inr "at") = some (.int at_) := by
  unfold penL; rw [valV_neg (k_ne (by decide)), valV_pos rfl]
theorem pen_digits : valV (penL cl at_ dg ct fo) (.inr "digits") = some (.int dg) := by
  unfold penL; rw [valV_neg (k_ne (by decide)), valV_neg (k_ne (by decide)), valV_pos rfl]
theorem pen_count : valV (penL cl at_ dg ct fo) (.inr "count") = some (.int ct) := by
  unfold penL; rw [valV_neg (k_ne (by decide)), valV_neg (k_ne (by decide)), valV_neg (k_ne (by decide)), valV_pos rfl]
theorem pen_fold : valV (penL cl at_ dg ct fo) (.inr "fold") = some (.int fo) := by
  unfold penL; rw [valV_neg (k_ne (by decide)), valV_neg (k_ne (by decide)), valV_neg (k_ne (by decide)), valV_neg (k_ne (by decide)), valV_pos rfl]
theorem put_at : putK (penL cl at_ dg ct fo) (.inr "at") (.int x) = penL cl x dg ct fo := by
  unfold penL putK
  simp [show ¬ (Str.ofString "cells" = Str.ofString "at") by decide, show ¬ (Str.ofString "digits" = Str.ofString "at") by decide, show ¬ (Str.ofString "count" = Str.ofString "at") by decide, show ¬ (Str.ofString "fold" = Str.ofString "at") by decide]
theorem put_digits : putK (penL cl at_ dg ct fo) (.inr "digits") (.int x) = penL cl at_ x ct fo := by
  unfold penL putK
  simp [show ¬ (Str.ofString "cells" = Str.ofString "digits") by decide, show ¬ (Str.ofString "at" = Str.ofString "digits") by decide, show ¬ (Str.ofString "count" = Str.ofString "digits") by decide, show ¬ (Str.ofString "fold" = Str.ofString "digits") by decide]
theorem put_count : putK (penL cl at_ dg ct fo) (.inr "count") (.int x) = penL cl at_ dg x fo := by
  unfold penL putK
  simp [show ¬ (Str.ofString "cells" = Str.ofString "count") by decide, show ¬ (Str.ofString "at" = Str.ofString "count") by decide, show ¬ (Str.ofString "digits" = Str.ofString "count") by decide, show ¬ (Str.ofString "fold" = Str.ofString "count") by decide]
theorem put_fold : putK (penL cl at_ dg ct fo) (.inr "fold") (.int x) = penL cl at_ dg ct x := by
  unfold penL putK
  simp [show ¬ (Str.ofString "cells" = Str.ofString "fold") by decide, show ¬ (Str.ofString "at" = Str.ofString "fold") by decide, show ¬ (Str.ofString "digits" = Str.ofString "fold") by decide, show ¬ (Str.ofString "count" = Str.ofString "fold") by decide]
end
/-- the readings of the pen's parts -/
abbrev tP (k : Str) : TE := tDGet (tVar 0) (tC (.str k))
abbrev gP (k : Str) : TG := gSub (tVar 0) (tC (.str k)) rSetD
structure PD (σ : St) (H : Hp) (p cl : Addr) (ns : List Int) (at_ dg ct fo : Int) : Prop where
  s : σ[0]? = some (some (.ref p))
  d : H p = some (.dK (penL cl at_ dg ct fo))
  c : H cl = some (.lst (ns.map V.int))
section
variable {σ : St} {H : Hp} {p cl : Addr} {ns : List Int} {at_ dg ct fo x : Int} {Q : VK} {Qs : St → Hp → Prop}
theorem PD.at (h : PD σ H p cl ns at_ dg ct fo) (q : Q (.int at_) H) : tP "at" σ H Q := ⟨_, h.s, p, _, rfl, by rw [← pen_at]; exact DGet.k (k := .inr "at") h.d, q⟩
theorem PD.digits (h : PD σ H p cl ns at_ dg ct fo) (q : Q (.int dg) H) : tP "digits" σ H Q := ⟨_, h.s, p, _, rfl, by rw [← pen_digits]; exact DGet.k (k := .inr "digits") h.d, q⟩
theorem PD.count (h : PD σ H p cl ns at_ dg ct fo) (q : Q (.int ct) H) : tP "count" σ H Q := ⟨_, h.s, p, _, rfl, by rw [← pen_count]; exact DGet.k (k := .inr "count") h.d, q⟩
theorem PD.fold (h : PD σ H p cl ns at_ dg ct fo) (q : Q (.int fo) H) : tP "fold" σ H Q := ⟨_, h.s, p, _, rfl, by rw [← pen_fold]; exact DGet.k (k := .inr "fold") h.d, q⟩
theorem PD.cells (h : PD σ H p cl ns at_ dg ct fo) (q : Q (.ref cl) H) : tP "cells" σ H Q := ⟨_, h.s, p, _, rfl, by rw [← pen_cells (cl := cl) (at_ := at_) (dg := dg) (ct := ct) (fo := fo)]; exact DGet.k (k := .inr "cells") h.d, q⟩
theorem PD.w {a2 d2 c2 f2 : Int} (h : PD σ H p cl ns at_ dg ct fo) : PD σ (upd H p (.dK (penL cl a2 d2 c2 f2))) p cl ns a2 d2 c2 f2 :=
  ⟨h.s, upd_same, by rw [upd_ne (ne_of h.c h.d (by simp))]; exact h.c⟩
theorem PD.setAt (h : PD σ H p cl ns at_ dg ct fo) (q : Qs σ (upd H p (.dK (penL cl x dg ct fo)))) : gP "at" (.int x) σ H Qs := ⟨_, h.s, p, _, rfl, DPut.k (k := .inr "at") h.d (by show 5 < sizeLine; decide), by rw [put_at]; exact q⟩
theorem PD.setDigits (h : PD σ H p cl ns at_ dg ct fo) (q : Qs σ (upd H p (.dK (penL cl at_ x ct fo)))) : gP "digits" (.int x) σ H Qs := ⟨_, h.s, p, _, rfl, DPut.k (k := .inr "digits") h.d (by show 5 < sizeLine; decide), by rw [put_digits]; exact q⟩
theorem PD.setCount (h : PD σ H p cl ns at_ dg ct fo) (q : Qs σ (upd H p (.dK (penL cl at_ dg x fo)))) : gP "count" (.int x) σ H Qs := ⟨_, h.s, p, _, rfl, DPut.k (k := .inr "count") h.d (by show 5 < sizeLine; decide), by rw [put_count]; exact q⟩
theorem PD.setFold (h : PD σ H p cl ns at_ dg ct fo) (q : Qs σ (upd H p (.dK (penL cl at_ dg ct x)))) : gP "fold" (.int x) σ H Qs := ⟨_, h.s, p, _, rfl, DPut.k (k := .inr "fold") h.d (by show 5 < sizeLine; decide), by rw [put_fold]; exact q⟩
end
/-- what a draw leaves -/
theorem pen_ext {Θ : Th} {F : Addr → Prop} {b : Nat} {H : Hp} {p : Addr} {ns : List Int} {at_ dg ct fo a2 d2 c2 f2 : Int} (hp : Θ.pa = some p) (w : Wd Θ F b H) (h1 : H p = some (.dK (penL Θ.pc at_ dg ct fo))) (h2 : H Θ.pc = some (.lst (ns.map V.int)))
    (q1 : 0 ≤ a2) (q2 : 0 ≤ d2) (q3 : 0 ≤ c2) (q4 : c2 + (b - 1 : Nat) ≤ 2 ^ 48) (q5 : 0 ≤ f2) (q6 : f2 < 2 ^ 32) : Ext Θ F b H F (b - 1) (upd H p (.dK (penL Θ.pc a2 d2 c2 f2))) where
  f := fun _ h => h
  h := fun a o e n _ => by rw [upd_ne (fun z => n (by rw [hp, z]))]; exact e
  n := fun _ h => .inl h
  p := fun a e _ => by
    rw [hp] at e; cases e
    exact ⟨ns, a2, d2, c2, f2, upd_same, by rw [upd_ne (ne_of h2 h1 (by simp))]; exact h2, q1, q2, q3, q4, q5, q6⟩
  t := fun t => tabs_upd t h1 noTab_dK (fun c q z => by cases z)
  x := fun a o e => by
    by_cases z : a = p
    · exact ⟨_, by rw [z]; exact upd_same⟩
    · exact ⟨o, by rw [upd_ne z]; exact e⟩
  tt := fun a ps e => ⟨ps, by rw [upd_ne (fun z => by rw [z, h1] at e; cases e)]; exact e⟩
  b := Nat.sub_le _ _
section
variable {X : Cx}
structure DrawX (X : Cx) : Prop where
  hN : X.N = drawN
  hs : ∀ x ∈ drawN, X.env.scope.names.lookup x = some .local
  gl : Gl X "len"
  gi : Gl X "int"
  ml : X.mg "len" = none
  mi : X.mg "int" = none
  hc : X.calm = true
  hu : X.A.units + 200 < cLine
theorem DrawX.v (h : DrawX X) (i : Nat) {x : Str} {q : Pos} (e : drawN[i]? = some x) (hp : plainName x = true) : PE X (.Name x q) (tVar i) :=
  pe_var (by rw [h.hN]; exact e) (.inl (h.hs x (List.mem_of_getElem? e))) (plainName_debug hp).1 (plainName_debug hp).2
theorem DrawX.p (h : DrawX X) (k : Str) {q1 q2 q3 : Pos} : PE X (.Subscript (.Name "pen" q1) (.Constant (.str k) 0 q2) q3) (tP k) := by
  have hu := h.hu
  exact pe_dget (by omega) (h.v 0 rfl (by decide)) pe_str (fun _ _ => rfl)
theorem DrawX.g (h : DrawX X) (k : Str) {q1 q2 q3 : Pos} : PG X (.Subscript (.Name "pen" q1) (.Constant (.str k) 0 q2) q3) (gP k) := by
  have hu := h.hu
  exact pg_sub (h.v 0 rfl (by decide)) pe_str (set_dict (by omega))
theorem DrawX.st (h : DrawX X) (k : Str) {q1 q2 q3 q4 : Pos} {a : Expr} {te : TE} (ha : PE X a te) (hs : noSw a = true) : PS X (.Assign [.Subscript (.Name "pen" q1) (.Constant (.str k) 0 q2) q3] a q4) (tAsg te (gP k)) :=
  ps_asg ha (h.g k) sw_subS sw_sub_none rfl
theorem DrawX.set (h : DrawX X) (i : Nat) {x : Str} {q1 q2 : Pos} {a : Expr} {te : TE} (e : drawN[i]? = some x) (ha : PE X a te) (hs : noSw a = true) : PS X (.Assign [.Name x q1] a q2) (tAsg te (gName i)) := by
  have l := h.hs x (List.mem_of_getElem? e)
  exact ps_set (by rw [h.hN]; decide) (by rw [h.hN]; exact e) (.inl l) ha (sw_no hs) (.inr l)
theorem DrawX.int (h : DrawX X) {a : Expr} {te : TE} {q1 q2 : Pos} (ha : PE X a te) (hs : notStar a = true) : PE X (.Call (.Name "int" q1) [a] [] q2) (tCB (fun xs H Q => (∃ i, xs = [V.int i] ∧ Q (.int i) H) ∨ ∃ k, xs = [V.bl k] ∧ Q (.int (if k then 1 else 0)) H) (tCons te tNil)) :=
  pe_callTy call_int1 h.gi h.mi (by decide +kernel) (pa_cons ha pa_nil (starEach_ns hs)) (by decide) (by decide) (starEach_ns hs) rfl
theorem DrawX.len (h : DrawX X) {a : Expr} {te : TE} {q1 q2 : Pos} (ha : PE X a te) (hs : notStar a = true) : PE X (.Call (.Name "len" q1) [a] [] q2) (tCB (rLen X.K) (tCons te tNil)) :=
  pe_callB call_len_seq h.gl h.ml boot_len (pa_cons ha pa_nil (starEach_ns hs)) (by decide) (by decide) (starEach_ns hs) rfl
theorem mulX_small {i j : Int} {n m : Nat} (h1 : i.natAbs < 2 ^ n) (h2 : j.natAbs < 2 ^ m) (h : n + m ≤ 134217728) : CMulX i j := by
  have hb : ∀ {x : Int} {k : Nat}, x.natAbs < 2 ^ k → Builtin.Int.intBits x ≤ k := fun {x k} hx => by
    unfold Builtin.Int.intBits
    split
    · exact Nat.zero_le _
    · rename_i z
      have : x.natAbs ≠ 0 := fun q => z (by simpa using q)
      exact (Nat.log2_lt this).2 hx
  have e1 := hb h1
  have e2 := hb h2
  unfold CMulX
  omega
/-- the draw's end, from where the pen's digits are looked at -/
theorem draw_tail (h : DrawX X) (q : Nat → Pos) {p cl : Addr} {ns : List Int} {many : Int} {H : Hp} {Dn : Ends} (h2 : H cl = some (.lst (ns.map V.int))) (hpc : p ≠ cl) (hm : 0 < many) (hm2 : many < 2 ^ 64) :
    ∃ t, PSs X ((drawAst q).drop 2) t ∧ ∀ (σ : St) (at_ dg ct fo : Int), σ[0]? = some (some (.ref p)) → σ[1]? = some (some (.int many)) → σ.length = 5 → 0 ≤ dg → 0 ≤ ct → ct ≤ 2 ^ 48 → 0 ≤ fo → fo < 2 ^ 32 →
      (∀ r d2 : Int, 0 ≤ r → r < many → 0 ≤ d2 → Dn.rt (.int r) (upd H p (.dK (penL cl at_ d2 ct fo)))) → t Dn σ (upd H p (.dK (penL cl at_ dg ct fo))) := by
  refine ⟨_, pss_cons (ps_if (pt_cmpR op_gt (h.p "digits") pe_int (nomark _))
      (pss_cons (h.set 4 rfl (pe_op op_modN (h.int (h.p "digits") rfl) (h.v 1 rfl (by decide))) rfl) (pss_cons (h.st "digits" (pe_op op_fdivL (h.p "digits") (h.v 1 rfl (by decide))) rfl) (pss_one (ps_ret (h.v 4 rfl (by decide)))))) pss_nil)
    (pss_cons (h.set 2 rfl (pe_op op_add (pe_op op_add (h.p "fold") (pe_op op_mulX (h.p "count") pe_int)) pe_int) rfl) (pss_one (ps_ret (pe_op op_modN (pe_op op_fdivL (h.int (pe_op op_modN (pe_op op_pow (h.v 2 rfl (by decide)) pe_int) pe_int) rfl) pe_int) (h.v 1 rfl (by decide)))))), ?_⟩
  intro σ at_ dg ct fo s0 s1 sl qd qc qc2 qf qf2 ok
  have pd : PD σ (upd H p (.dK (penL cl at_ dg ct fo))) p cl ns at_ dg ct fo := ⟨s0, upd_same, by rw [upd_ne (Ne.symm hpc)]; exact h2⟩
  refine pd.digits ⟨dg, 0, rfl, rfl, decide (0 < dg), rfl, ?_⟩
  by_cases hd : 0 < dg
  · simp only [hd, decide_true, if_true]
    refine pd.digits (.inl ⟨dg, rfl, _, s1, dg, many, rfl, rfl, by omega, ?_⟩)
    have s0' : (σ.set 4 (some (.int (dg.fmod many))))[0]? = some (some (.ref p)) := by rw [List.getElem?_set_ne (by decide)]; exact s0
    have s1' : (σ.set 4 (some (.int (dg.fmod many))))[1]? = some (some (.int many)) := by rw [List.getElem?_set_ne (by decide)]; exact s1
    have s4' : (σ.set 4 (some (.int (dg.fmod many))))[4]? = some (some (.int (dg.fmod many))) := List.getElem?_set_self (by omega)
    have pd2 : PD (σ.set 4 (some (.int (dg.fmod many)))) (upd H p (.dK (penL cl at_ dg ct fo))) p cl ns at_ dg ct fo := ⟨s0', pd.d, pd.c⟩
    refine pd2.digits ⟨_, s1', dg, many, rfl, rfl, ⟨by omega, ?_⟩, pd2.setDigits ?_⟩
    · have : many.natAbs < 2 ^ 64 := by omega
      exact Nat.lt_trans ((Nat.log2_lt (by omega)).2 this) (by decide)
    · refine ⟨_, s4', ?_⟩
      rw [upd_upd]
      exact ok _ _ (Int.fmod_nonneg_of_pos _ hm) (Int.fmod_lt_of_pos _ hm) (Int.fdiv_nonneg (by omega) (by omega))
  · simp only [hd, decide_false]
    refine pd.fold (pd.count ⟨ct, 6317, rfl, rfl, ?_, fo, ct * 6317, rfl, rfl, _, 191, rfl, rfl, ?_⟩)
    · exact mulX_small (n := 64) (m := 64) (by omega) (by omega) (by omega)
    · have s0' : (σ.set 2 (some (.int (fo + ct * 6317 + 191))))[0]? = some (some (.ref p)) := by rw [List.getElem?_set_ne (by decide)]; exact s0
      have s1' : (σ.set 2 (some (.int (fo + ct * 6317 + 191))))[1]? = some (some (.int many)) := by rw [List.getElem?_set_ne (by decide)]; exact s1
      have s2' : (σ.set 2 (some (.int (fo + ct * 6317 + 191))))[2]? = some (some (.int (fo + ct * 6317 + 191))) := List.getElem?_set_self (by omega)
      refine ⟨_, s2', _, 53, rfl, rfl, ⟨by omega, by omega, by omega⟩, _, 2305843009213693951, rfl, rfl, by omega, .inl ⟨_, rfl, _, 2048, rfl, rfl, ⟨by omega, by decide⟩, _, s1', _, many, rfl, rfl, by omega, ?_⟩⟩
      exact ok _ _ (Int.fmod_nonneg_of_pos _ hm) (Int.fmod_lt_of_pos _ hm) qd
theorem draw_pss (h : DrawX X) (q : Nat → Pos) {p cl : Addr} {ns : List Int} {at_ dg ct fo many : Int} {b : Nat} {H : Hp} {Q : VK}
    (h1 : H p = some (.dK (penL cl at_ dg ct fo))) (h2 : H cl = some (.lst (ns.map V.int))) (q1 : 0 ≤ at_) (q2 : 0 ≤ dg) (q3 : 0 ≤ ct) (q4 : ct + b ≤ 2 ^ 48) (q5 : 0 ≤ fo) (q6 : fo < 2 ^ 32) (hb : 1 ≤ b) (hm : 0 < many) (hm2 : many < 2 ^ 64)
    (ok : ∀ (r a2 d2 c2 f2 : Int), 0 ≤ r → r < many → 0 ≤ a2 → 0 ≤ d2 → 0 ≤ c2 → c2 + (b - 1 : Nat) ≤ 2 ^ 48 → 0 ≤ f2 → f2 < 2 ^ 32 → Q (.int r) (upd H p (.dK (penL cl a2 d2 c2 f2)))) :
    ∃ t, PSs X (drawAst q) t ∧ t { nx := fun _ H' => Q .non H', rt := Q } (L2.start drawN [.ref p, .int many]) H := by
  have hpc : p ≠ cl := ne_of h1 h2 (by simp)
  obtain ⟨tt, ht, tail⟩ := draw_tail h q (p := p) (H := H) (Dn := { nx := fun _ H' => Q .non H', rt := Q }) h2 hpc hm hm2
  refine ⟨_, pss_cons (h.st "count" (pe_op op_add (h.p "count") pe_int) rfl) (pss_cons (ps_if (PW.pt (pw_and (pt_cmpR op_eq (h.p "digits") pe_int (nomark _)) (pw_and1 (pt_cmpR op_lt (h.p "at") (h.len (h.p "cells") rfl) (nomark _)))))
    (pss_cons (h.set 3 rfl (pe_ix ix_seq (h.p "cells") (h.p "at") (fun _ _ => rfl)) rfl) (pss_cons (h.st "at" (pe_op op_add (h.p "at") pe_int) rfl) (pss_one (ps_if (pt_cmpR op_ge (h.v 3 rfl (by decide)) (pe_op op_pow pe_int pe_int) (nomark _))
      (pss_one (h.st "digits" (pe_op op_sub (h.v 3 rfl (by decide)) (pe_op op_pow pe_int pe_int)) rfl))
      (pss_one (h.st "fold" (pe_op op_modN (h.int (pe_op op_add (pe_op op_mulX (h.p "fold") pe_int) (h.v 3 rfl (by decide))) rfl) pe_int) rfl)))))) pss_nil) ht), ?_⟩
  have pd : PD (L2.start drawN [.ref p, .int many]) H p cl ns at_ dg ct fo := ⟨rfl, h1, h2⟩
  -- count
  refine pd.count ⟨ct, 1, rfl, rfl, pd.setCount ?_⟩
  have pd1 := pd.w (a2 := at_) (d2 := dg) (c2 := ct + 1) (f2 := fo)
  have fin : ∀ (σ : St) (a2 d2 f2 : Int), σ[0]? = some (some (.ref p)) → σ[1]? = some (some (.int many)) → σ.length = 5 → 0 ≤ a2 → 0 ≤ d2 → 0 ≤ f2 → f2 < 2 ^ 32 → tt { nx := fun _ H' => Q .non H', rt := Q } σ (upd H p (.dK (penL cl a2 d2 (ct + 1) f2))) := fun σ a2 d2 f2 s0 s1 sl g1 g2 g3 g4 =>
    tail σ a2 d2 (ct + 1) f2 s0 s1 sl g2 (by omega) (by omega) g3 g4 fun r d3 r1 r2 r3 => ok r a2 d3 (ct + 1) f2 r1 r2 g1 r3 (by omega) (by omega) g3 g4
  refine pd1.digits ⟨rfl, _, rfl, ?_⟩
  have e0 : decide (V.int dg = V.int 0) = decide (dg = 0) := by simp
  rw [e0]
  by_cases hd : dg = 0
  · subst hd
    simp only [decide_true, if_true]
    refine pd1.at (pd1.cells ⟨cl, ns.map V.int, rfl, .inl (SqL.of pd1.c), at_, _, rfl, rfl, _, rfl, ?_⟩)
    by_cases ha : at_ < ((ns.map V.int).length : Int)
    · simp only [ha, decide_true, if_true]
      have hn : at_.toNat < ns.length := by simp at ha; omega
      have hx : atI (ns.map V.int) at_ = some (.int (ns[at_.toNat]'hn)) := by
        unfold atI ixN
        rw [if_pos q1, if_pos ha]
        show (ns.map V.int)[at_.toNat]? = _
        rw [List.getElem?_map, List.getElem?_eq_getElem hn]
        rfl
      refine pd1.cells (pd1.at (.inl ⟨cl, ns.map V.int, at_, _, rfl, rfl, SqL.of pd1.c, hx, ?_⟩))
      generalize ns[at_.toNat]'hn = cell at hx
      have s2 : ((L2.start drawN [.ref p, .int many]).set 3 (some (.int cell))) = [some (.ref p), some (.int many), none, some (.int cell), none] := rfl
      have pd2 : PD ((L2.start drawN [.ref p, .int many]).set 3 (some (.int cell))) (upd H p (.dK (penL cl at_ 0 (ct + 1) fo))) p cl ns at_ 0 (ct + 1) fo := ⟨rfl, pd1.d, pd1.c⟩
      refine pd2.at ⟨at_, 1, rfl, rfl, pd2.setAt ?_⟩
      have pd3 := pd2.w (a2 := at_ + 1) (d2 := 0) (c2 := ct + 1) (f2 := fo)
      rw [upd_upd] at pd3 ⊢
      refine ⟨.int cell, rfl, 10, 18, rfl, rfl, ⟨by omega, by omega, by decide⟩, cell, _, rfl, rfl, _, rfl, ?_⟩
      by_cases hc : (10 : Int) ^ (18 : Int).toNat ≤ cell
      · simp only [hc, decide_true, if_true]
        refine ⟨.int cell, rfl, 10, 18, rfl, rfl, ⟨by omega, by omega, by decide⟩, cell, _, rfl, rfl, pd3.setDigits ?_⟩
        rw [upd_upd]
        exact fin _ _ _ _ rfl rfl rfl (by omega) (by omega) q5 q6
      · simp only [hc, decide_false]
        refine pd3.fold ⟨fo, 31013, rfl, rfl, mulX_small (n := 64) (m := 64) (by omega) (by omega) (by omega), .int cell, rfl, _, cell, rfl, rfl, .inl ⟨_, rfl, _, 2147482909, rfl, rfl, by omega, pd3.setFold ?_⟩⟩
        rw [upd_upd]
        exact fin _ _ _ _ rfl rfl rfl (by omega) (by omega) (Int.fmod_nonneg_of_pos _ (by omega)) (Int.lt_trans (Int.fmod_lt_of_pos _ (by omega)) (by omega))
    · simp only [ha, decide_false]
      exact fin _ _ _ _ rfl rfl rfl q1 (by omega) q5 q6
  · simp only [hd, decide_false]
    exact fin _ _ _ _ rfl rfl rfl q1 q2 q5 q6
end
theorem FunD.bind_all {K : PySem.W.Frag} {x qual : Str} {params : Arguments} {body : List Stmt} {scope : Scope} {f : Addr} {fd : FuncData} {ps : List Str} (F : FunD K x qual params body scope [] [] f fd)
    (h : ∀ (kV doc pm : Value) (an : Option Addr) (cdv ct : Value) (us : List Value), us.length = ps.length → bindArgs (PySem.W.fnOf x qual params body scope .none kV doc pm an cdv ct) ⟨us, []⟩ = pure (ps.zip us)) : Binds K fd ps [] := F.bindsN h
/-- the draw -/
theorem draw_fn {Y : Wo} {Θ : Th} {k : Nat} {f : Addr} {fd : FuncData} {params : Arguments} {scope : Scope} {q : Nat → Pos} (G : GG Y Θ) (F : FunD Y.K "_law_draw" "_law_draw" params (drawAst q) scope [] [] f fd) (S : FnScope drawN ["pen", "many"] scope)
    (hv : ∀ x ∈ drawN, scope.names.lookup x = some .local) (hl : scope.names.lookup ("len" : Str) = some .globalImplicit) (hi : scope.names.lookup ("int" : Str) = some .globalImplicit) (hm : Y.mg "_law_draw" = some (.ref f)) (hb : Binds Y.K fd ["pen", "many"] []) : FnM Y Θ (k + 1) "_law_draw" drawM := by
  obtain ⟨⟨oc, od, dV, kV, doc, pm, an, cdv, ct, osl, rfl, lk, hcd, _, _⟩, kp⟩ := F
  refine cal_of (fnG_of lk hcd S (fun vs H Q E h => ?_) fun A fr s H vs Q E hr hg h => ?_) hm kp hb
  · obtain ⟨pa, pc, cm, F, b, ds, P', E', Θ', eΘ, rl, w, m, _⟩ := h
    unfold drawM at m
    split at m
    · rw [rl.length]; rfl
    · exact m.elim
  · obtain ⟨pa, pc, cm, F, b, ds, P', E', Θ', eΘ, rl, w, m, p1, p2⟩ := h
    unfold drawM at m
    split at m
    · rename_i many
      obtain ⟨m1, m2, m3, m4⟩ := m
      cases rl with
      | cons r1 rl =>
        cases rl with
        | cons r2 rl =>
          cases rl
          cases r2
          cases r1 with
          | @pen p hp =>
            obtain ⟨⟨ns, a1, a2, a3, a4, e1, e2, q1, q2, q3, q4, q5, q6⟩, nf⟩ := w.p p hp
            refine draw_pss (X := bodyX Y drawN "_law_draw" scope f cdv A fr s H E) ⟨rfl, hv, hl, hi, G.free _ (by decide), G.free _ (by decide), rfl, by
              have z := hr.un
              show (A.deeper (envOfC "_law_draw" scope s.heap.objs.size f cdv)).units + 200 < cLine
              omega⟩ q e1 e2 q1 q2 q3 q4 q5 q6 m1 m2 m3 fun r b2 d2 c2 f2 r1 r2 g1 g2 g3 g4 g5 g6 => ?_
            exact p1 _ _ (m4 r r1 r2) _ _ _ (pen_ext hp w e1 e2 g1 g2 g3 g4 g5 g6) (Rep.int r)
    · exact m.elim
end VL
end
-- V23
section
set_option Elab.async false
set_option linter.all false
set_option maxRecDepth 100000
set_option maxHeartbeats 4000000
/-! Errors of own classes: how they are made. -/
namespace VL
open PySem PySem.Spec PyProof.Rows
open L2 hiding St
/-- the base of the errors: its __init__ is ValueError's -/
structure LErr (K : PySem.W.Frag) (C0 : Addr) : Prop where
  rd : PySem.W.readsIn K C0 (.type "type") = true
  ga : PySem.W.specialIn K (.ref C0) "__getattribute__" = some (some (.builtin "type.__getattribute__"))
  fi : PySem.W.findCls K (.ref C0) (.type "type") "__init__" = some (.val (.builtin "ValueError.__init__"))
theorem pe_linit {X : Cx} {C0 : Addr} {x : Str} {e c : Expr} {ta : TA} {p1 p2 pos : Pos} (L : LErr X.K C0) (hg : Gl X x) (hm : X.mg x = some (.ref C0)) (hd : (x == ("__debug__" : Str)) = false) (ha : PA X [e, c] ta) (hs : notStar e = true) (hs2 : notStar c = true) (hline : (p2.endLine == pos.line) = true) :
    PE X (.Call (.Attribute (.Name x p1) "__init__" p2) [e, c] [] pos) (tVeI X.K ta) := by
  have st := starEach_ns (es := [c]) (env := X.env) hs
  have st2 := starEach_ns (es := []) (env := X.env) hs2
  have hform : methodCallForm (([e, c] : List Expr).length + ([] : List Keyword).length) (backTo pos (starEach [e, c] X.env)) (backToKw pos (keywordEach [] X.env)) = true := by rw [st, st2]; rfl
  have hpos : methodCallPos true (.Name x p1) X.env p2 pos = pure pos := by unfold methodCallPos; simp [hline]
  refine ⟨fun pins s σ H Q Iv h => ?_⟩
  rw [arm_eval_Call, attr_plain (e := .Name x p1) rfl]
  refine wpAny_bind (ld_glob Iv hg hm (wpAny_bind (wpAny_standAt ?_)) hd)
  unfold methodCall
  rw [hform]
  refine wpAny_bind (wpAny_holding ?_)
  show wpAny _ _ (getMethod (.ref C0) "__init__" _) _ _ _
  refine PySem.W.method_cls Iv.kIn L.ga (PySem.W.cls_value Iv.kIn L.rd L.fi (by decide +kernel) ?_)
  refine wpAny_bind (wpAny_of_eq hpos ?_)
  refine PyProof.Rows.callWith_method1 (thn (ha.run pos pins _ σ H _ (Iv.tok _) h) fun us s1 ⟨vs, H1, I1, r1, a, C, ws, ev, hl, T, ea, q⟩ => ?_) st (by rw [st2]; rfl)
  subst ev
  cases r1 with
  | cons ra rw' =>
    cases ra
    have hlen := Paired.length rw'
    exact oinit_ok T I1 ea (by rw [← hlen, sizeLine_eq]; omega) fun s2 J => ⟨.non, H1, J, rfl, q⟩

/-! ### the text of such an __init__ -/
def isSets : List Str → List Stmt → Bool
  | [], [] => true
  | f :: fs, .Assign [.Attribute (.Name s _) g _] (.Name a _) _ :: r => decide (s = "self") && decide (g = f) && decide (a = f) && isSets fs r
  | _, _ => false
def isInit (fs : List Str) : List Stmt → Bool
  | .Expr (.Call (.Attribute (.Name l _) i ap) [.Name s _, .Constant (.str _) _ _] [] cp) _ :: r => decide (l = "LoanError") && decide (i = "__init__") && decide (s = "self") && (ap.endLine == cp.line) && isSets fs r
  | _ => false
structure IniX (X : Cx) (fs : List Str) (C0 : Addr) : Prop where
  hN : X.N = ("self" : Str) :: fs
  hs : ∀ x ∈ ("self" : Str) :: fs, X.env.scope.names.lookup x = some .local
  hp : ∀ x ∈ ("self" : Str) :: fs, plainName x = true
  gl : Gl X "LoanError"
  ml : X.mg "LoanError" = some (.ref C0)
section
variable {X : Cx} {fs : List Str} {C0 : Addr}
theorem IniX.v (h : IniX X fs C0) (i : Nat) {x : Str} {q : Pos} (e : (("self" : Str) :: fs)[i]? = some x) : PE X (.Name x q) (tVar i) := by
  have hm := List.mem_of_getElem? e
  have hp := plainName_debug (h.hp x hm)
  exact pe_var (by rw [h.hN]; exact e) (.inl (h.hs x hm)) hp.1 hp.2
/-- the further fields -/
theorem sets_pss (h : IniX X fs C0) {gs done : List Str} {r : List Stmt} (hc : isSets gs r = true) (hd : fs = done ++ gs) {C : Addr} (T : OexC X.K C) (hno : ∀ f ∈ fs, PySem.W.findIn X.K (.ref C) f = some none) :
    ∃ t, PSs X r t ∧ ∀ (σ : St) (H : Hp) (Dn : Ends) (a dx : Addr) (acc : List (Str × V)) (ys : List V), σ[0]? = some (some (.ref a)) → H a = some (exo a C (some dx)) → H dx = some (exd dx acc) → dx ≠ a → acc.length + gs.length ≤ 900 → ys.length = gs.length →
      (∀ i y, ys[i]? = some y → σ[done.length + 1 + i]? = some (some y)) → (∀ H' : Hp, (∀ b, b ≠ dx → H' b = H b) → H' dx = some (exd dx ((gs.zip ys).reverse ++ acc)) → Dn.nx σ H') → t Dn σ H := by
  induction gs generalizing r done with
  | nil =>
    cases r with
    | cons => cases hc
    | nil =>
      refine ⟨_, pss_nil, fun σ H Dn a dx acc ys s0 ea ed hne hl hy hv q => ?_⟩
      exact q H (fun _ _ => rfl) (by simpa using ed)
  | cons f gs ih =>
    unfold isSets at hc
    split at hc
    · rename_i e1; cases e1
    · rename_i f' fs' s p1 g p2 a' p3 p4 r' e1
      cases e1
      simp only [Bool.and_eq_true, decide_eq_true_eq] at hc
      obtain ⟨⟨⟨rfl, rfl⟩, rfl⟩, hc⟩ := hc
      obtain ⟨t, ht, ih⟩ := ih (done := done ++ [a']) hc (by rw [hd]; simp)
      have hi : (("self" : Str) :: fs)[done.length + 1]? = some a' := by rw [hd]; simp
      refine ⟨_, pss_cons (ps_ost (h.v 0 rfl) (h.v (done.length + 1) hi) rfl) ht, fun σ H Dn a dx acc ys s0 ea ed hne hl hy hv q => ?_⟩
      cases ys with
      | nil => cases hy
      | cons y ys =>
        rw [List.length_cons] at hl
        refine ⟨y, by simpa using hv 0 y rfl, _, s0, a, C, rfl, T, hno a' (by rw [hd]; simp), .inr ⟨dx, acc, ea, ed, by omega, ?_⟩⟩
        refine ih σ _ Dn a dx ((a', y) :: acc) ys s0 (by rw [upd_ne (Ne.symm hne)]; exact ea) upd_same hne (by rw [List.length_cons]; omega) (by simpa using hy) (fun i z hz => ?_) fun H' k1 k2 => ?_
        · have := hv (i + 1) z (by simpa using hz)
          rw [List.length_append]
          simpa [Nat.add_assoc, Nat.add_comm, Nat.add_left_comm] using this
        · refine q H' (fun b hb => by rw [k1 b hb, upd_ne hb]) ?_
          rw [k2]; simp
    · cases hc
/-- the whole body -/
theorem init_pss (h : IniX X fs C0) (L : LErr X.K C0) {r : List Stmt} (hc : isInit fs r = true) (hf : fs ≠ []) (hlen : fs.length ≤ 100) {C : Addr} (T : OexC X.K C) (hno : ∀ f ∈ fs, PySem.W.findIn X.K (.ref C) f = some none) :
    ∃ t, PSs X r t ∧ ∀ (σ : St) (H : Hp) (Dn : Ends) (a : Addr) (ys : List V), σ[0]? = some (some (.ref a)) → H a = some (exo a C none) → ys.length = fs.length → (∀ i y, ys[i]? = some y → σ[i + 1]? = some (some y)) →
      (∀ (dx : Addr) (H' : Hp), H dx = none → dx ≠ a → (∀ b, b ≠ dx → b ≠ a → H' b = H b) → H' a = some (exo a C (some dx)) → H' dx = some (exd dx ((fs.zip ys).reverse)) → Dn.nx σ H') → t Dn σ H := by
  unfold isInit at hc
  split at hc
  · rename_i l p1 i p2 s p3 z j p4 p5 p6 r'
    simp only [Bool.and_eq_true, decide_eq_true_eq] at hc
    obtain ⟨⟨⟨⟨rfl, rfl⟩, rfl⟩, hline⟩, hc⟩ := hc
    have hinit := ps_expr (pos := p6) (pe_linit (pos := p5) (p1 := p1) (p2 := p2) L h.gl h.ml (by decide) (pa_cons (h.v 0 (q := p3) rfl) (pa_cons (pe_str (x := z) (j := j) (pos := p4)) pa_nil rfl) rfl) rfl rfl hline) rfl
    cases fs with
    | nil => exact absurd rfl hf
    | cons f gs =>
      unfold isSets at hc
      split at hc
      · rename_i e1; cases e1
      · rename_i f' fs' s p1 g p2 a' p3 p4 r' e1
        cases e1
        simp only [Bool.and_eq_true, decide_eq_true_eq] at hc
        obtain ⟨⟨⟨rfl, rfl⟩, rfl⟩, hc⟩ := hc
        obtain ⟨t, ht, ih⟩ := sets_pss h (done := [a']) hc rfl T hno
        refine ⟨_, pss_cons hinit (pss_cons (ps_ost (h.v 0 rfl) (h.v 1 rfl) rfl) ht), fun σ H Dn a ys s0 ea hy hv q => ?_⟩
        cases ys with
        | nil => cases hy
        | cons y ys =>
          refine ⟨_, s0, a, C, [.str z], rfl, (show 1 ≤ 1000 by decide), T, ea, ?_⟩
          refine ⟨y, by simpa using hv 0 y rfl, _, s0, a, C, rfl, T, hno a' (by simp), .inl ⟨ea, fun dx nd ne => ?_⟩⟩
          refine ih σ _ Dn a dx [(a', y)] ys s0 upd_same (by rw [upd_ne ne]; exact upd_same) ne (by simp at hlen ⊢; omega) (by simpa using hy) (fun i w hw => ?_) fun H' k1 k2 => ?_
          · have := hv (i + 1) w (by simpa using hw)
            simpa [Nat.add_comm, Nat.add_left_comm] using this
          · refine q dx H' nd ne (fun b h1 h2 => by rw [k1 b h1, upd_ne h2, upd_ne h1]) (by rw [k1 a (Ne.symm ne)]; exact upd_same) ?_
            rw [k2]; simp
      · cases hc
  · cases hc
end
/-- the fields of an error, the last one first -/
def mkF (fs : List Str) : List D → M (List (Str × D)) := fun ds => need (ds.length = fs.length) (ret (fs.zip ds).reverse)
def spI (C : Addr) (fs : List Str) : Sp := fun vs H Q _ => ∃ (a : Addr) (ys : List V), vs = .ref a :: ys ∧ ys.length = fs.length ∧ H a = some (exo a C none) ∧
  ∀ (dx : Addr) (H' : Hp), H dx = none → dx ≠ a → (∀ b, b ≠ dx → b ≠ a → H' b = H b) → H' a = some (exo a C (some dx)) → H' dx = some (exd dx ((fs.zip ys).reverse)) → Q .non H'
theorem init_fn {Y : Wo} {k : Nat} {C C0 fI : Addr} {qual : Str} {fd : FuncData} {params : Arguments} {body : List Stmt} {scope : Scope} {fs : List Str} (F : FunD Y.K "__init__" qual params body scope [] [] fI fd) (S : FnScope ("self" :: fs) ("self" :: fs) scope)
    (hs : ∀ x ∈ ("self" : Str) :: fs, scope.names.lookup x = some .local) (hp : ∀ x ∈ ("self" : Str) :: fs, plainName x = true) (hg : scope.names.lookup ("LoanError" : Str) = some .globalImplicit) (hm : Y.mg "LoanError" = some (.ref C0)) (L : LErr Y.K C0) (hc : isInit fs body = true) (hf : fs ≠ []) (hlen : fs.length ≤ 100)
    (T : OexC Y.K C) (hno : ∀ f ∈ fs, PySem.W.findIn Y.K (.ref C) f = some none) : FnOk Y.P Y.w Y.K Y.mg Y.base (L2.CX Y.P Y.w) (k + 1) fI fd ("self" :: fs) (spI C fs) := by
  refine F.ok S (fun vs H Q E h => ?_) fun cdv A fr s H vs Q E hr h => ?_
  · obtain ⟨a, ys, rfl, hl, _⟩ := h
    rw [List.length_cons, List.length_cons, hl]
  · obtain ⟨a, ys, rfl, hl, ea, q⟩ := h
    obtain ⟨t, ht, hq⟩ := init_pss (X := cxOf (L2.CX Y.P Y.w) Y.P Y.w Y.K Y.mg Y.base ("self" :: fs) qual scope fI cdv A fr s H E) (C := C) ⟨rfl, hs, hp, hg, hm⟩ L hc hf hlen T hno
    refine ⟨t, ht, hq _ H _ a ys rfl ea hl (fun i y hy => ?_) q⟩
    have hi : i < ys.length := by
      rcases Nat.lt_or_ge i ys.length with z | z
      · exact z
      · rw [List.getElem?_eq_none z] at hy; cases hy
    unfold L2.start
    rw [List.getElem?_append_left (by simpa using hi), List.getElem?_map, List.getElem?_cons_succ, hy]
    rfl
theorem repL_zip {Θ : Th} {F : Addr → Prop} {H : Hp} {fs : List Str} {vs : List V} {ds : List D} (h : RepL Θ F H vs ds) : RepF Θ F H (fs.zip vs) (fs.zip ds) := by
  induction ds generalizing vs fs with
  | nil => cases h; cases fs <;> exact .nil
  | cons d ds ih =>
    cases h with
    | cons a r =>
      cases fs with
      | nil => exact .nil
      | cons f fs => exact .cons a (ih r)
theorem repF_app {Θ : Th} {F : Addr → Prop} {H : Hp} {kvs us : List (Str × V)} {ds es : List (Str × D)} (h : RepF Θ F H kvs ds) (g : RepF Θ F H us es) : RepF Θ F H (kvs ++ us) (ds ++ es) := by
  induction ds generalizing kvs with
  | nil => cases h; exact g
  | cons p ds ih =>
    obtain ⟨x, y⟩ := p
    cases h with
    | cons a r => exact .cons a (ih r)
theorem repF_rev {Θ : Th} {F : Addr → Prop} {H : Hp} {kvs : List (Str × V)} {ds : List (Str × D)} (h : RepF Θ F H kvs ds) : RepF Θ F H kvs.reverse ds.reverse := by
  induction ds generalizing kvs with
  | nil => cases h; exact .nil
  | cons p ds ih =>
    obtain ⟨x, y⟩ := p
    cases h with
    | cons a r =>
      rw [List.reverse_cons, List.reverse_cons]
      exact repF_app (ih r) (.cons a .nil)
/-- an error of an own class is made -/
theorem mk_of {Y : Wo} {Θ : Th} {k : Nat} {C fI : Addr} {c : Str} {fd : FuncData} {fs : List Str} (G : GG Y Θ) (hlen : fs.length ≤ 100) (hm : Θ.glb c = some C) (T : OexC Y.K C) (iC : PySem.W.findIn Y.K (.ref C) "__init__" = some (some (.ref fI))) (tI : PySem.W.typeIn Y.K (.ref fI) = some (.type "function"))
    (F1 : FnOk Y.P Y.w Y.K Y.mg Y.base (L2.CX Y.P Y.w) k fI fd ("self" :: fs) (spI C fs)) (hb : Binds Y.K fd ("self" :: fs) []) : MkOk Y Θ (k + 1) c (mkF fs) := by
  intro X N sc W e fs0 a as p pos Θ' eΘ GX hg hp ha hs
  rw [List.all_cons, Bool.and_eq_true] at hs
  have hr := GX.room
  have hglb : Θ'.glb c = some C := by
    have := congrArg Th.glb eΘ
    rw [show Θ'.glb = Θ.glb from this]; exact hm
  have F1' : FnOk X.prog X.w X.K X.mg X.base (L2.CX X.prog X.w) k fI fd ("self" :: fs) (spI C fs) := by rw [GX.hP, GX.hw, GX.hKY, GX.hmg, GX.hbase]; exact F1
  have mk := pmk_oex (X := X) (dvs := []) (ds := []) (p := p) (pos := pos) (by rw [GX.hKY]; exact T) (by rw [GX.hKY]; exact iC) (by rw [GX.hKY]; exact tI) F1' hr (by rw [GX.hKY]; exact hb) .nil (passes_call GX.tk (fun _ _ _ _ h => h.elim)) (gl_of (by rw [GX.hs]; exact hg)) (GX.glb c C hglb) ha (plainName_debug hp).1 (starEach_ns hs.1) (plain_ns hs.2)
  intro pins s σ H Q Iv h
  refine mk pins s σ H Q Iv ?_
  obtain ⟨F, b, ρ, P, E, ok, m, p1, p2⟩ := h
  refine ⟨F, b, ρ, _, E, ok, m, fun rs b1 m1 vs F1 H1 x1 r1 => ?_, p2⟩
  obtain ⟨ds, ⟨hl, m2⟩, kk⟩ := kept_ok r1 m1
  have rl := kk vs fun _ h => h
  have x2 := fixed_ext (vs := vs) x1
  have w2 := ok.wd.ext x2
  have hvl : vs.length = fs.length := by rw [rl.length, hl]
  refine ⟨by omega, fun a na => ?_⟩
  refine ⟨a, vs, by rw [List.append_nil], hvl, upd_same, fun dx H2 nd ne k1 ka kd => ⟨rfl, dx, _, ka, kd, ?_, ?_⟩⟩
  · rw [upd_ne ne] at nd; exact nd
  · rw [upd_ne ne] at nd
    have eH : upd (del H2 a) dx (.xd ((fs.zip vs).reverse)) = upd H1 dx (.xd ((fs.zip vs).reverse)) := by
      funext z
      by_cases hz : z = dx
      · subst hz; rw [upd_same, upd_same]
      · rw [upd_ne hz, upd_ne hz]
        by_cases hz2 : z = a
        · subst hz2; rw [del_same, na]
        · rw [del_ne hz2, k1 z hz hz2, upd_ne hz2]
    rw [eH]
    have y : Ext Θ' _ b1 H1 _ b1 (upd H1 dx (.xd ((fs.zip vs).reverse))) := Ext.new' (F := fixed F1 H H1 vs) nd
    exact p1 _ _ m2 _ _ _ _ (x2.trans y ok.wd) ⟨C, rfl, hglb, .inr ⟨dx, _, rfl, upd_same, (repF_rev (repL_zip rl)).ext y w2⟩⟩
end VL
end
-- V25
section
set_option Elab.async false
set_option linter.all false
set_option maxRecDepth 100000
set_option maxHeartbeats 4000000
/-! Lambdas: the call. -/
namespace VL
open PySem PySem.Spec PyProof.Rows
open L2 hiding St
/-- what a lambda without parameters computes: its term, its names, what they hold -/
def cloM (x : E) (NL : List Str) (cap : List (Str × D)) : M R := fun P E b => D.noCloK cap = true ∧ ev x (NL.map fun y => (cap.lookup y).map R.val) P E b
/-- the context of a lambda's body -/
def lamC (Y : Wo) (N : List Str) (qual : Str) (scope : Scope) (cl : List (Str × Addr)) (f c' : Addr) (A : Around) (fr : List Env) (s : Shared) (H : Hp) (E : XK) : Cx where
  prog := Y.P
  w := Y.w
  K := Y.K
  mg := Y.mg
  base := Y.base
  A := A.deeper (PySem.W.envX qual scope s.heap.objs.size f (.ref c') cl)
  N := N
  s_0 := s
  H_0 := H
  env := PySem.W.envX qual scope s.heap.objs.size f (.ref c') cl
  outer := fr
  stack := PySem.W.envX qual scope s.heap.objs.size f (.ref c') cl :: fr
  ex := []
  fn := fun _ => false
  calm := true
  pn := []
  xe := fun u s2 => wpAny (model Y.P Y.w) (A.deeper (PySem.W.envX qual scope s.heap.objs.size f (.ref c') cl)) (leaving (PySem.W.envX qual scope s.heap.objs.size f (.ref c') cl) u) (fun _ s3 => L2.CX Y.P Y.w fr H s E u s3) (fun u2 s3 => L2.CX Y.P Y.w fr H s E u2 s3) s2
/-- the names of a lambda: captured ones and the module's -/
structure LamN (scope : Scope) (NL : List Str) : Prop where
  kind : scope.kind = .function
  co : scope.isCoroutine = false
  gen : scope.isGenerator = false
  own : ∀ y ∈ scope.names, y.2 ≠ .local ∧ y.2 ≠ .cell
  nd : NL.Nodup
  fr : ∀ y ∈ NL, (y, NameKind.free) ∈ scope.names
theorem lam_start {Y : Wo} {N : List Str} {qual : Str} {scope : Scope} {cl : List (Str × Addr)} {f c' : Addr} {A : Around} {fr : List Env} {s : Shared} {H : Hp} {E : XK} {h1 : Heap} {tk : Nat} {σ : St} (L : LamN scope N) (e0 : Env0 Y.P Y.w Y.K Y.mg Y.base A fr s H) (hd : A.handled = none) (inj : InjL scope cl)
    (hns : h1.Ns s.heap.objs.size fun y => ([] : List (Str × Value)).reverse.lookup y) (kp : ∀ b o, s.heap.get? b = some o → h1.get? b = some o) (hl : σ.length = N.length)
    (has : ∀ y, scope.names.lookup y = some .free → ∃ c, cl.lookup y = some c) (cell : ∀ y c, cl.lookup y = some c → ∃ v, s.heap.IsCell c v) (fc : ∀ y c, cl.lookup y = some c → H c = none)
    (val : ∀ (i : Nat) (y : Str) (v : V), N[i]? = some y → σ[i]? = some (some v) → scope.names.lookup y = some .free → ∃ u c, RelV v u ∧ cl.lookup y = some c ∧ s.heap.IsCell c (some u)) :
    Inv (lamC Y N qual scope cl f c' A fr s H E) [] σ H { s with heap := h1, toks := tk } := by
  have noA : ∀ b : Addr, b ∉ (lamC Y N qual scope cl f c' A fr s H E).ex := fun b z => by cases z
  refine ⟨⟨e0.mod, L.kind, rfl, rfl, Nat.le_refl _, fun y z c e1 e2 => inj.1 y z c e1 e2, fun y hy => ?_, fun y c z _ => (by cases (show false = true from z)), fun _ => hd, Around.frames_deeper e0.frames, .inr ⟨rfl, rfl⟩, fun b z => absurd z (noA b), e0.bs, e0.bsz, fun b _ _ => noA b, fun b z => absurd z (noA b), e0.funs, e0.frf⟩,
    rfl, e0.bare, Un.kept kp, ⟨_, hns, fun i y v e1 e2 e3 => ?_⟩, fun y c e => ?_, e0.hok.fresh (Nat.le_refl _), fun y c e => fc y c e, fun q hq => absurd (show q ∈ ([] : List (Addr × Obj)) ++ [] from hq) (by simp), e0.hok.kept kp, hl⟩
  · have hy : scope.names.lookup y = some .cell ∨ scope.names.lookup y = some .free := hy
    rcases hy with hy | hy
    · exact absurd rfl (L.own _ (PySem.mem_of_lookup hy)).2
    · exact has y hy
  · have e3 : Vis scope y := e3
    rcases e3 with k | k | k
    · exact absurd rfl (L.own _ (PySem.mem_of_lookup k)).1
    · exact absurd rfl (L.own _ (PySem.mem_of_lookup k)).2
    · obtain ⟨u, c, r, hc, hz⟩ := val i y v e1 e2 k
      exact ⟨u, r, .inr ⟨.inr k, c, hc, hz.keeps kp⟩⟩
  · obtain ⟨v, hz⟩ := cell y c e
    exact ⟨v, hz.keeps kp⟩
theorem noClo_lookup {cap : List (Str × D)} {y : Str} {d : D} (h : D.noCloK cap = true) (e : cap.lookup y = some d) : d.noClo = true := by
  induction cap with
  | nil => cases e
  | cons p cap ih =>
    obtain ⟨x, z⟩ := p
    have h' := Bool.and_eq_true_iff.mp h
    rw [List.lookup_cons] at e
    cases q : y == x with
    | true => rw [q] at e; cases e; exact h'.1
    | false => rw [q] at e; exact ih h'.2 e
theorem core_eq {Θ Θ' : Th} (e : core Θ' = core Θ) : Θ'.K = Θ.K ∧ Θ'.glb = Θ.glb ∧ Θ'.tabs = Θ.tabs ∧ Θ'.gcdOn = Θ.gcdOn ∧ Θ'.ins = Θ.ins ∧ Θ'.flds = Θ.flds ∧ Θ'.lam = Θ.lam := by
  have h1 := congrArg Th.K e
  have h2 := congrArg Th.glb e
  have h3 := congrArg Th.tabs e
  have h4 := congrArg Th.gcdOn e
  have h5 := congrArg Th.ins e
  have h6 := congrArg Th.flds e
  have h7 := congrArg Th.lam e
  exact ⟨h1, h2, h3, h4, h5, h6, h7⟩
theorem GG.of {Y : Wo} {Θ Θ' : Th} (G : GG Y Θ) (e : core Θ' = core Θ) : GG Y Θ' := by
  obtain ⟨h1, h2, h3, h4, h5, h6, h7⟩ := core_eq e
  refine ⟨by rw [h1]; exact G.hK, by rw [h2]; exact G.glb, G.free, by rw [h4]; exact G.gcd, by rw [h1, h2, h5, h6]; exact G.ins, ⟨?_, ?_, ?_, ?_, ?_, ?_⟩⟩
  · rw [h2, h5]; exact G.isi.at_
  · rw [h1, h2, h5]; exact G.isi.of
  · rw [h1, h5]; exact G.isi.sp
  · rw [h1, h2, h5]; exact G.isi.ty
  · rw [h1, h2, h5]; exact G.isi.bt
  · rw [h1, h2, h5]; exact G.isi.cc
/-- a lambda that was handed on is called -/
theorem clo_call {Y : Wo} {Θ : Th} {k n : Nat} {x : E} {NL : List Str} {params : Arguments} {body : Expr} {scope : Scope} {p : Pr} (G : GG Y Θ) (pk : PrG p Θ) (hl : Θ.lam n = some (params, body, scope)) (L : LamN scope NL)
    (hbind : ∀ (qual : Str) (cl : List (Str × Addr)) (pm cv ctv : Value), bindArgs (PySem.W.kla_fn "<lambda>" qual params body scope cl pm cv ctv) ⟨[], []⟩ = pure []) (hc : chk x p NL scope body = true) (cc : CallsOk Y (core Θ) k x)
    {X : Cx} (hP : X.prog = Y.P) (hw : X.w = Y.w) (hK : X.K = Y.K) (hmg : X.mg = Y.mg) (hbase : X.base = Y.base) (hr : Room (k + 1) X.A) (hg : X.A.guards = some []) {W : WX} (tk : Takes X W)
    {Θ' : Th} (eΘ : core Θ' = core Θ) (hcells : Θ'.cells = none) {pins : List (Addr × Obj)} {s : Shared} {σ : St} {F : Addr → Prop} {b : Nat} {H : Hp} {Q : VK} {P : R → Nat → Prop} {E : XD → Nat → Prop} {v : V} {u : Value} {cap : List (Str × D)}
    (Iv : Inv X pins σ H s) (rv : RelV v u) (rep : Rep Θ' F H v (.clo n cap)) (w : Wd Θ' F b H) (m : cloM x NL cap P E b)
    (ok : ∀ r b', P r b' → ∀ v F' H', Ext Θ' F b H F' b' H' → RepR Θ' H F' H' v r → Q v H') (ex : ∀ z b', E z b' → ∀ cls d F' H', Ext Θ' F b H F' b' H' → RepX Θ' F' H' cls d z → W cls d σ H') :
    wpAny (model X.prog X.w) X.A (call u []) (EP X pins σ Q) X.xe s := by
  cases rep with
  | @clo f c' qual params' body' scope' _ cl _ hF hf hF' hc' hlam inj clo =>
  obtain ⟨eK, eglb, etabs, egcd, eins, eflds, elam⟩ := core_eq eΘ
  rw [elam, hl] at hlam
  cases hlam
  cases (show u = Value.ref f from rv)
  have cells : ∀ y ∈ scope.names, y.2 = .free → ∃ c d, cl.lookup y.1 = some c ∧ cap.lookup y.1 = some d ∧ Θ'.cm c = some d := by
    rcases clo with ⟨_, cs, e, _⟩ | ⟨_, h⟩
    · rw [hcells] at e; cases e
    · exact h
  let cs : Addr → Prop := fun a => ∃ y, cl.lookup y = some a
  haveI : DecidablePred cs := fun a => Classical.propDecidable (cs a)
  have fix : ∀ y c, cl.lookup y = some c → ∃ d, cap.lookup y = some d ∧ CellFix Θ' F H c d := fun y c e => by
    obtain ⟨c2, d, e1, e2, e3⟩ := cells (y, .free) (inj.2 y c e) rfl
    rw [e] at e1; cases e1
    exact ⟨d, e2, w.cm c d e3⟩
  have lk : Lkd cs H := fun c ⟨y, e⟩ => by
    obtain ⟨d, _, _, oc, _, _, q, _⟩ := fix y c e
    exact ⟨oc, q⟩
  have look : ∀ y ∈ NL, ∃ c d, cl.lookup y = some c ∧ cap.lookup y = some d ∧ Θ'.cm c = some d := fun y hy => cells (y, .free) (L.fr y hy) rfl
  -- the heap's own things
  obtain ⟨⟨pm, ctv, of⟩, _, _⟩ := (show ObjOk X.prog X.w H s.heap f (.ext _) from Iv.hok f _ hf)
  obtain ⟨⟨oc, vs, t, hoc, hdc, hvc⟩, _, _⟩ := (show ObjOk X.prog X.w H s.heap c' (.ext _) from Iv.hok c' _ hc')
  have cellAt : ∀ y c, cl.lookup y = some c → ∃ d v u, cap.lookup y = some d ∧ RelV v u ∧ Rep Θ' F H v d ∧ s.heap.IsCell c (some u) := fun y c e => by
    obtain ⟨d, e2, _, oc, u, v, q, hd, r, rp⟩ := fix y c e
    obtain ⟨q1, _⟩ := (show ObjOk X.prog X.w H s.heap c (.frz oc _) from Iv.hok c _ q)
    exact ⟨d, v, u, e2, r, rp, oc, q1, hd⟩
  have key : ∀ y, ∃ v : V, y ∈ NL → ∃ d u c, cap.lookup y = some d ∧ cl.lookup y = some c ∧ RelV v u ∧ Rep Θ' F H v d ∧ s.heap.IsCell c (some u) := fun y => by
    by_cases hy : y ∈ NL
    · obtain ⟨c, d, e1, e2, _⟩ := look y hy
      obtain ⟨d', v, u, q1, q2, q3, q4⟩ := cellAt y c e1
      exact ⟨v, fun _ => ⟨d', u, c, q1, e1, q2, q3, q4⟩⟩
    · exact ⟨.non, fun z => absurd z hy⟩
  obtain ⟨g, hg'⟩ := Classical.axiomOfChoice key
  let σL : St := NL.map fun y => some (g y)
  let HL := unlk cs H
  let FL : Addr → Prop := fun a => F a ∧ ¬ cs a
  have wL : Wd (bare Θ') FL b HL := wd_unlk lk w
  have e0 := Iv.env0
  rw [hP, hw, hK, hmg, hbase] at e0
  have e0L : Env0 Y.P Y.w Y.K Y.mg Y.base X.A X.stack s HL := ⟨e0.frames, e0.mod, fun b o q => ⟨(e0.bs b o q).1, unlk_none (e0.bs b o q).2⟩, e0.bsz, e0.funs, fun b hb => unlk_none (e0.frf b hb), hok_unlk e0.hok lk, e0.bare⟩
  let EL : XK := fun cls d H3 => (∀ c, cs c → H3 c = none) → W cls d σ (VL.relk cs H H3)
  let en : En := ⟨FL, b, HL⟩
  have cellsNone : ∀ c, cs c → HL c = none := fun c z => unlk_in z
  have cellThere : ∀ c, cs c → ∃ o, s.heap.get? c = some o := fun c ⟨y, e⟩ => by
    obtain ⟨_, _, _, _, _, _, o, q, _⟩ := cellAt y c e
    exact ⟨o, q⟩
  have notFr : ∀ c, cs c → c ∉ frs X.stack := fun c z hm => by
    have q := e0.frf c hm
    obtain ⟨oc, q2⟩ := lk c z
    rw [q] at q2; cases q2
  have rc : codeAny (model Y.P Y.w) X.A (.call (.ref f) ⟨[], []⟩) (CR (L2.CX Y.P Y.w) X.stack Y.P Y.w HL s (fun v H3 => (∀ c, cs c → H3 c = none) → Q v (VL.relk cs H H3)) EL) s := by
    refine PySem.W.kla_callFunE hr.depth of rfl L.co L.gen rfl ⟨c', oc, vs, t, rfl, hoc, hdc, hvc⟩ ?_
    rw [hbind]
    refine wpAny_pure (wpAny_newFunctionEnv (fun y hy => (L.own y hy).2) (fun y hy => absurd hy (by simp)) (fun h1 hns hsb => ⟨Iv.nolimit.fresh _ hsb, ?_⟩) L.kind)
    have kp : ∀ b o, s.heap.get? b = some o → h1.get? b = some o := fun b o q => hsb.extBut b o (Nat.ne_of_lt (Heap.lt_size q)) (Heap.get?_push_of_some _ q)
    have J : Inv (lamC Y NL qual scope cl f c' X.A X.stack s HL EL) [] σL HL { s with heap := h1, toks := s.toks + ([] : List (Str × Value)).length } :=
      lam_start L e0L hr.hd inj hns kp (by simp [σL]) (fun y hy => by
        obtain ⟨c, _, e1, _⟩ := cells (y, .free) (PySem.mem_of_lookup hy) rfl
        exact ⟨c, e1⟩) (fun y c e => by
        obtain ⟨_, _, u, _, _, _, q⟩ := cellAt y c e
        exact ⟨some u, q⟩) (fun y c e => unlk_in ⟨y, e⟩) fun i y v e1 e2 e3 => by
        have hy := List.mem_of_getElem? e1
        obtain ⟨d, u, c, q1, q2, q3, q4, q5⟩ := hg' y hy
        have ev : v = g y := by
          have z : σL[i]? = some (some (g y)) := by show (NL.map _)[i]? = _; rw [List.getElem?_map, e1]; rfl
          rw [z] at e2; cases e2; rfl
        subst ev
        exact ⟨u, c, q3, q2, q5⟩
    have GL : GG Y (bare Θ') := G.of (Θ' := bare Θ') eΘ
    have gx : XG (lamC Y NL qual scope cl f c' X.A X.stack s HL EL) Y (bare Θ') k NL scope (fun cls d _ H => EL cls d H) := ⟨rfl, rfl, rfl, rfl, rfl, GL.hK, rfl, L.nd, rfl, rfl, hr.deeper _, hg, takes_of rfl rfl rfl rfl, GL.glb, GL.free, GL.gcd, GL.ins, GL.isi⟩
    have pe := (snd x p (X := lamC Y NL qual scope cl f c' X.A X.stack s HL EL) (Y := Y) (Θ := bare Θ') (k := k) (N := NL) (sc := scope) (W := fun cls d _ H => EL cls d H) (e := en) (a := body)
      (PrG.ok ⟨pk.f.trans eflds.symm, pk.i.trans eins.symm, fun z => egcd.trans (pk.g z), pk.m⟩ hcells) gx hc (by show CallsOk Y (core Θ') k x; rw [eΘ]; exact cc)).1
    refine PySem.W.kla_codeExpr (wpAny_mono (pe.run [] _ σL HL (fun v H3 => (∀ c, cs c → H3 c = none) → Q v (VL.relk cs H H3)) J ?_) (fun v s2 hq => ?_) fun e s2 hq => hq)
    · refine ⟨FL, b, _, P, E, ⟨wL, wL, .refl, by simp [σL], fun i r h => ?_, fun i j d d' a h1 _ _ _ => ?_⟩, m.2, ⟨fun r b' hp v F' H' x r' hn => ok r b' hp v _ _ (ext_relk lk w hn x) (repR_relk hn w lk r'), fun z b' hz cls d F' H' x rx hn => ex z b' hz cls d _ _ (ext_relk lk w hn x) (repX_relk hn rx)⟩⟩
      · have at_ : ∃ y, NL[i]? = some y ∧ (cap.lookup y).map R.val = some r := by
          rw [List.getElem?_map] at h
          cases q : NL[i]? with
          | none => rw [q] at h; cases h
          | some y => rw [q] at h; exact ⟨y, rfl, Option.some.inj h⟩
        obtain ⟨y, e1, e2⟩ := at_
        obtain ⟨d, u, c, q1, q2, q3, q4, q5⟩ := hg' y (List.mem_of_getElem? e1)
        rw [q1] at e2
        cases e2
        refine ⟨g y, by show (NL.map _)[i]? = _; rw [List.getElem?_map, e1]; rfl, ?_⟩
        exact Rep.unlk lk q4 (noClo_lookup m.1 q1)
      · rw [List.getElem?_map] at h1
        cases q : NL[i]? with
        | none => rw [q] at h1; cases h1
        | some y =>
          rw [q] at h1
          cases q2 : cap.lookup y with
          | none => simp [q2] at h1
          | some d => simp [q2] at h1
    · obtain ⟨w', H', J', rv, q⟩ := hq
      exact ⟨w', H', J'.os, J'.bare, J'.base, J'.hok, rv, q⟩
  have toCX : ∀ {u : Value} {s2 : Shared}, L2.CX Y.P Y.w X.stack HL s EL u s2 → L2.CX Y.P Y.w X.stack H s (fun cls d H' => W cls d σ H') u s2 := fun {u s2} h => by
    obtain ⟨a, B, H3, cls, d, eu, fl, hok3, ub, na, os, ag, q⟩ := h
    have hn : ∀ c, cs c → H3 c = none := fun c z => by
      obtain ⟨o, ho⟩ := cellThere c z
      exact ub.free c o ho (cellsNone c z)
    have kc : ∀ c o, cs c → s.heap.get? c = some o → B.get? c = some o := fun c o z ho => ub.keep c o ho (cellsNone c z) (notFr c z)
    refine ⟨a, B, VL.relk cs H H3, cls, d, eu, fl, hok_relk e0.hok hok3 lk hn kc, ub_relk lk ub, ?_, os, ag, q hn⟩
    have z : ¬ cs a := fun z => by
      obtain ⟨o, ho⟩ := cellThere a z
      have q1 := kc a o z ho
      rw [fl.2.1] at q1; cases q1
    rw [relk_out z]; exact na
  rw [← hP, ← hw] at rc toCX
  refine wpAny_call (codeAny_mono rc fun fl s2 hq => ?_)
  cases fl with
  | error u => exact passAt tk σ pins H s u s2 Iv (toCX hq)
  | ok fl =>
    cases fl with
    | ret u =>
      obtain ⟨v, H3, os, bare', un, hok3, r, q⟩ := hq
      have hn : ∀ c, cs c → H3 c = none := fun c z => by
        obtain ⟨o, ho⟩ := cellThere c z
        exact un.free c o ho (cellsNone c z) (by simp)
      have kc : ∀ c o, cs c → s.heap.get? c = some o → s2.heap.get? c = some o := fun c o z ho => un.keep c o ho (cellsNone c z) (notFr c z) (by simp)
      exact Iv.after ⟨v, VL.relk cs H H3, os, bare', un_relk lk un, hok_relk Iv.hok hok3 lk hn kc, r, q hn⟩
    | next => exact hq.elim
    | brk => exact hq.elim
    | cont => exact hq.elim
end VL
end
-- V26
section
set_option Elab.async false
set_option linter.all false
set_option maxRecDepth 100000
set_option maxHeartbeats 4000000
/-! try: .. except A as n: .. except B as n: .. (each clause names what it caught, all by one name). -/
namespace VL
open PySem PySem.Spec PyProof.Rows
open L2 hiding St
abbrev SuT := Addr → Value → Option Addr → TS
/-- the ends of a suite: the name has gone -/
def Dgo (i : Nat) (Dn : Ends) : Ends := ⟨fun τ G => Dn.nx (τ.set i none) G, Dn.rt, fun τ G => Dn.bk (τ.set i none) G, fun τ G => Dn.ct (τ.set i none) G⟩
/-- what is asked of an exception, clause by clause -/
def asks (K : PySem.W.Frag) (i : Nat) (out : WX) (Dn : Ends) (cls : Value) (d : Option Addr) (τ : L2.St) (G : Hp) : List (Value × SuT) → Prop
  | [] => out cls d τ G
  | p :: ps => match PySem.W.exmOne K cls p.1 with
    | some true => ∀ a, G a = none → p.2 a cls d (Dgo i Dn) (τ.set i (some (.ref a))) G
    | some false => asks K i out Dn cls d τ G ps
    | none => False
/-- a clause and what it is told to do -/
structure Cla1 (X : Cx) (n : Str) (hd : ExceptHandler) (p : Value × SuT) : Prop where
  is : ∃ (x : Str) (b₀ : Stmt) (r : List Stmt) (np pp : Pos), hd = .ExceptHandler (some (.Name x np)) (some n) (b₀ :: r) pp ∧ Names X x p.1 ∧
    ∀ (a : Addr) (oe : Obj) (cls : Value) (d : Option Addr) (pn : List (Addr × Obj)), Zc cls d oe → (∃ vs, oe.data = .fields vs) → PSs (X.suite a ((a, oe) :: pn)) (b₀ :: r) (p.2 a cls d)
inductive ClaN (X : Cx) (n : Str) : List ExceptHandler → List (Value × SuT) → Prop
  | nil : ClaN X n [] []
  | cons {hd hds p ps} : Cla1 X n hd p → ClaN X n hds ps → ClaN X n (hd :: hds) (p :: ps)
/-- an exception that has landed in X; the rest is the state s, t without it -/
structure Lnd (X : Cx) (pins : List (Addr × Obj)) (τ : L2.St) (G : Hp) (cls : Value) (d : Option Addr) (a : Addr) (B : Heap) (t s : Shared) : Prop where
  inv : Inv X pins τ G t
  old : ∀ b o, t.heap.get? b = some o → b ∉ frs X.stack → B.get? b = some o
  up : t.heap.UpToSlots s.heap
  fly : HandSPX.FlyingZ B X.stack a (Zc cls d) s.heap
  na : G a = none
  os : s.os = t.os
  bare : AllBare s.gens
section
variable {X : Cx} {pins : List (Addr × Obj)} {τ : L2.St} {G : Hp} {cls : Value} {d : Option Addr} {a : Addr} {B : Heap} {t s : Shared}
theorem Lnd.here (L : Lnd X pins τ G cls d a B t s) : Inv X pins τ G s := L.inv.landed L.old L.fly.1 L.up L.os L.bare
theorem Lnd.obj (L : Lnd X pins τ G cls d a B t s) (hs : X.stack = X.env :: X.outer) (hf : X.env.frame = some X.env.locals) :
    ∃ oe, s.heap.get? a = some oe ∧ Zc cls d oe ∧ (∃ vs, oe.data = .fields vs) ∧ Inv (X.suite a ((a, oe) :: (X.pn ++ pins))) [] τ G s := by
  obtain ⟨oe, vs, g, z, dd⟩ := L.fly.there
  have off : a ∉ frs X.stack := by
    intro m
    obtain ⟨_, o2, g2, nd⟩ := L.fly.2.2.1.mem m
    obtain rfl : oe = o2 := Option.some.inj (g.symm.trans g2)
    exact nd _ dd
  refine ⟨oe, g, z, ⟨vs, dd⟩, L.here.suite g dd L.na ?_ ?_⟩
  · rintro rfl
    exact off (by rw [hs]; exact List.mem_filterMap.mpr ⟨_, List.mem_cons_self, hf⟩)
  · intro m
    obtain ⟨e, m1, m2⟩ := List.mem_filterMap.mp m
    exact off (by rw [hs]; exact List.mem_filterMap.mpr ⟨e, List.mem_cons_of_mem _ m1, m2⟩)
theorem Lnd.move (L : Lnd X pins τ G cls d a B t s) {h : Heap} (f : HandSPX.FlyingZ B X.stack a (Zc cls d) h) (u : s.heap.UpToSlots h) : Lnd X pins τ G cls d a B t { s with heap := h } :=
  ⟨L.inv, L.old, L.up.trans u, f, L.na, L.os, L.bare⟩
/-- no clause is left -/
theorem Lnd.on {out : WX} {Dn : Ends} (L : Lnd X pins τ G cls d a B t s) (hf : X.env.frame = some X.env.locals) (tk : Takes X out) (h : out cls d τ G) :
    wpAny (model X.prog X.w) X.A (handleBy (.ref a) X.env []) (SP X pins Dn) X.xe s := by
  have up2 : wpAny (model X.prog X.w) X.A (setFlight (.ref a) X.env.frame) (fun _ s4 => wpAny (model X.prog X.w) X.A (throw (.ref a) : Sem Flow) (SP X pins Dn) X.xe s4) X.xe s := by
    rw [hf]
    exact HandSPX.setFlight_upZ L.fly fun g held u => wpAny_throw (tk _ _ ⟨a, B, t, pins, τ, G, cls, d, rfl, L.inv, L.old, L.up.trans u, .inr (.inr held), L.na, L.os, L.bare, h⟩)
  refine wpAny_handleBy_nil ?_
  have f := L.fly
  obtain ⟨_, _, _, oe, vs, T, _, _, g, _, dd, one, _⟩ := f
  unfold PySem.passOn
  refine wpAny_bind (wpAny_field g dd one ?_)
  have nn : ¬ ((Value.ref T == Value.none) = true) := by simp
  rw [if_neg nn]
  first
    | exact wpAny_bind (wpAny_pure (wpAny_bind up2))
    | exact wpAny_bind up2
/-- the clauses, one after the other -/
theorem Lnd.run {n : Str} {i : Nat} {out : WX} {Dn : Ends} (hs : X.stack = X.env :: X.outer) (hf : X.env.frame = some X.env.locals) (hN : X.N.Nodup) (hi : X.N[i]? = some n) (hln : X.env.kindOf n = some .local) (tk : Takes X out) :
    ∀ {hds : List ExceptHandler} {ps : List (Value × SuT)}, ClaN X n hds ps → ∀ {s : Shared}, Lnd X pins τ G cls d a B t s → asks X.K i out Dn cls d τ G ps →
      wpAny (model X.prog X.w) X.A (handleBy (.ref a) X.env hds) (SP X pins Dn) X.xe s
  | _, _, .nil, s, L, w => L.on hf tk w
  | _, _, @ClaN.cons _ _ hd hds p ps one more, s, L, w => by
    have ok := L.inv.ok
    obtain ⟨x, b₀, r, np, pp, rfl, ⟨gl, ndbg, val⟩, su⟩ := one.is
    obtain ⟨oe, g, z, fd, J⟩ := L.obj hs hf
    have LT : PySem.W.Looks (model X.prog X.w) s.heap (typeOf (.ref a)) cls := fun A Q E s2 k q => wpAny_typeOf_ref (k _ _ g) (by rw [z.1]; exact q)
    have nm : ∀ {Q : Value → Shared → Prop} {E : Value → Shared → Prop}, Q p.1 s → wpAny (model X.prog X.w) (X.A.mark (some (.ref a))) (eval (.Name x np) X.env) Q E s := by
      intro Q E q
      rcases val with m | ⟨m, bt, nn⟩
      · exact ld_glob (X := X.suite a ((a, oe) :: (X.pn ++ pins))) J gl m q ndbg
      · exact ld_blt (X := X.suite a ((a, oe) :: (X.pn ++ pins))) J gl m bt q nn ndbg
    cases q : PySem.W.exmOne X.K cls p.1 with
    | none => simp [asks, q] at w
    | some yes =>
      have LM := PySem.W.exm_one (M := model X.prog X.w) L.here.kIn LT q
      refine wpAny_handleBy_cons (codeAny_handlers_test (nm (LM.here ?_))) (by intro q; cases q)
      cases yes with
      | false => exact Lnd.run hs hf hN hi hln tk more L (by simpa [asks, q] using w)
      | true =>
        have w2 : ∀ a, G a = none → p.2 a cls d (Dgo i Dn) (τ.set i (some (.ref a))) G := by simpa [asks, q] using w
        refine codeAny_handlers_suite_as (HandSPX.lands_againZ L.fly fun g4 f4 u4 => ?_)
        have L4 := L.move f4 u4
        obtain ⟨oe4, _, z4, fd4, J4⟩ := L4.obj hs hf
        refine store_ok (X := X.suite a ((a, oe4) :: (X.pn ++ pins))) (v := .ref a) J4 hN hi (.inl hln) rfl (fun s5 J5 => ?_) (.inr hln)
        refine wpAny_mono ((su a oe4 cls d (X.pn ++ pins) z4 fd4).run [] s5 _ G _ J5 (w2 a L.na)) (fun fl s6 e => ?_) (fun _ _ z => False.elim z)
        cases fl <;> simp only [] at e ⊢
        · obtain ⟨τ6, G6, J6, k⟩ := e
          exact gone_ok (J6.unsuite ok) hN hi hln fun s7 J7 => ⟨_, _, J7, k⟩
        · obtain ⟨τ6, G6, J6, k⟩ := e
          exact gone_ok (J6.unsuite ok) hN hi hln fun s7 J7 => ⟨_, _, J7, k⟩
        · obtain ⟨τ6, G6, J6, k⟩ := e
          exact gone_ok (J6.unsuite ok) hN hi hln fun s7 J7 => ⟨_, _, J7, k⟩
        · obtain ⟨v6, τ6, G6, J6, rv, k⟩ := e
          exact gone_ok (J6.unsuite ok) hN hi hln fun s7 J7 => ⟨_, _, _, J7, rv, k⟩
end
section
variable {X : Cx} {n : Str} {i : Nat} {body : List Stmt} {h₀ : ExceptHandler} {hds : List ExceptHandler} {ps : List (Value × SuT)} {pos : Pos} {tb : WX → TS} {out : WX}
theorem ps_tryN (hs : X.stack = X.env :: X.outer) (hf : X.env.frame = some X.env.locals) (hN : X.N.Nodup) (hi : X.N[i]? = some n) (hln : X.env.kindOf n = some .local) (tk : Takes X out)
    (hb : ∀ (W : WX) (pn : List (Addr × Obj)) (xe : Value → Shared → Prop), Takes (X.tr pn xe) W → PassesOwn (model X.prog X.w) X.A X.env xe → PSs (X.tr pn xe) body (tb W))
    (cl : ClaN X n (h₀ :: hds) ps) : PS X (.Try body (h₀ :: hds) [] [] pos) (fun Dn τ G => tb (fun cls d τ' G' => asks X.K i out Dn cls d τ' G' ps) Dn τ G) := by
  constructor
  intro pins s τ G Dn I h
  have ok := I.ok
  have B0 := hb (fun cls d τ' G' => asks X.K i out Dn cls d τ' G' ps) (X.pn ++ pins)
    (fun e s1 => wpAny (model X.prog X.w) X.A (noteFrame e X.env) (fun _ s2 => wpAny (model X.prog X.w) X.A (setFlight e none) (fun _ s3 => wpAny (model X.prog X.w) X.A (handleBy e X.env (h₀ :: hds)) (SP X pins Dn) X.xe s3) X.xe s2) X.xe s1)
    (by
      rintro u s1 ⟨a, B, t, pins', τ1, G1, cls, d, rfl, I1, nb, up, sky, na, os, ag, w⟩
      show wpAny (model X.prog X.w) X.A (noteFrame (.ref a) X.env) _ _ _
      refine Sky.land Zc.steady (by rw [ok.frames, hs]) hf (by rw [← hs]; exact sky) fun g f3 u3 => ?_
      exact Lnd.run (pins := pins) hs hf hN hi hln tk cl ⟨I1.ofTry ok, nb, up.trans u3, by rw [hs]; exact f3, na, os, ag⟩ w)
    PassesOwn.looking
  refine wpAny_Try_except (wpAny_mono (B0.run [] s τ G Dn (I.toTry _) h) (fun fl s1 e => ?_) fun _ _ z => z)
  cases fl <;> simp only [] at e ⊢
  · obtain ⟨τ1, G1, J, k⟩ := e
    exact wpAny_execs_nil ⟨τ1, G1, J.ofTry ok, k⟩
  · obtain ⟨τ1, G1, J, k⟩ := e
    exact ⟨τ1, G1, J.ofTry ok, k⟩
  · obtain ⟨τ1, G1, J, k⟩ := e
    exact ⟨τ1, G1, J.ofTry ok, k⟩
  · obtain ⟨v, τ1, G1, J, r, k⟩ := e
    exact ⟨v, τ1, G1, J.ofTry ok, r, k⟩
end
end VL
end
-- V27
section
set_option Elab.async false
set_option linter.all false
set_option maxRecDepth 100000
set_option maxHeartbeats 4000000
/-! A def that runs what it was handed and tells the error: `try: action(); return None`, `except C as error: return (tag, error.f, ..)` for several C. -/
namespace VL
open PySem PySem.Spec PyProof.Rows
open L2 hiding St
/-! ### what it computes -/
/-- the lambdas by number: their terms, their names -/
abbrev LamT := Nat → Option (E × List Str)
def actM (lt : LamT) (n : Nat) (cap : List (Str × D)) : M R := match lt n with
  | some (x, NL) => cloM x NL cap
  | none => fail
abbrev Tell := Str × Str × List Str
def tellK : List Tell → XD → (R → Nat → Prop) → Nat → Prop
  | [], _, _, _ => False
  | (c, tag, fs) :: r, z, P, b => if z.cls = c then ∃ ds, fs.map (fun f => z.fs.lookup f) = ds.map some ∧ ds.length < 100 ∧ P (.val (.tup (.str tag :: ds))) b else tellK r z P b
def faultM (tab : List Tell) (lt : LamT) (ds : List D) : M R := fun P _ b => match ds with
  | [.clo n cap] => actM lt n cap (fun _ b' => P (.val .non) b') (fun z b' => z.cls ∈ tab.map (·.1) ∧ tellK tab z P b') b
  | _ => False
/-- what is known of the lambdas -/
def LamsOk (Y : Wo) (Θ : Th) (k : Nat) (lt : LamT) : Prop := ∀ n x NL, lt n = some (x, NL) → ∃ (params : Arguments) (body : Expr) (scope : Scope) (p : Pr), PrG p Θ ∧ Θ.lam n = some (params, body, scope) ∧ LamN scope NL ∧
  (∀ (qual : Str) (cl : List (Str × Addr)) (pm cv ctv : Value), bindArgs (PySem.W.kla_fn "<lambda>" qual params body scope cl pm cv ctv) ⟨[], []⟩ = pure []) ∧ chk x p NL scope body = true ∧ CallsOk Y (core Θ) k x
/-! ### the text -/
def isFlds : List Str → List Expr → Bool
  | [], [] => true
  | f :: fs, .Attribute (.Name n _) g _ :: r => decide (n = "error") && decide (g = f) && isFlds fs r
  | _, _ => false
def isHd : Tell → ExceptHandler → Bool
  | (c, tag, fs), .ExceptHandler (some (.Name x _)) (some n) [.Return (some (.Tuple (.Constant (.str t) _ _ :: as) _ _)) _] _ => decide (x = c) && decide (n = "error") && decide (t = tag) && isFlds fs as
  | _, _ => false
def isHds : List Tell → List ExceptHandler → Bool
  | [], [] => true
  | t :: ts, h :: hs => isHd t h && isHds ts hs
  | _, _ => false
def isFault (tab : List Tell) : List Stmt → Bool
  | [.Try [.Expr (.Call (.Name a _) [] [] _) _, .Return (some (.Constant .none _ _)) _] (h :: hs) [] [] _] => decide (a = "action") && isHds tab (h :: hs)
  | _ => false
def faultN : List Str := ["action", "error"]
/-- the classes -/
structure TellOk (Y : Wo) (Θ : Th) (sc : Scope) (tab : List Tell) : Prop where
  cl : ∀ t ∈ tab, t.2.2 ≠ [] ∧ ∃ C, Θ.glb t.1 = some C ∧ XfC Θ.K C ∧ (∀ f ∈ t.2.2, PySem.W.findIn Θ.K (.ref C) f = some none) ∧ glB sc t.1 = true ∧ plainName t.1 = true
  ex : ∀ c ∈ tab.map (·.1), ∀ c' ∈ tab.map (·.1), ∀ C C', Θ.glb c = some C → Θ.glb c' = some C' → PySem.W.exmOne Θ.K (.ref C) (.ref C') = some (decide (c = c'))
/-! ### the call of what was handed -/
section
variable {X : Cx} {Y : Wo} {Θ : Th} {k : Nat}
structure ActX (X : Cx) (Y : Wo) (k : Nat) : Prop where
  hP : X.prog = Y.P
  hw : X.w = Y.w
  hK : X.K = Y.K
  hmg : X.mg = Y.mg
  hbase : X.base = Y.base
  hr : Room (k + 1) X.A
  hg : X.A.guards = some []
  hN : X.N = faultN
  hs : ∀ x ∈ faultN, X.env.scope.names.lookup x = some .local
theorem ActX.tr (h : ActX X Y k) (pn : List (Addr × Obj)) (xe : Value → Shared → Prop) : ActX (X.tr pn xe) Y k := ⟨h.hP, h.hw, h.hK, h.hmg, h.hbase, h.hr, h.hg, h.hN, h.hs⟩
def tAct (Θ : Th) (lt : LamT) (W : WX) : TE := fun σ H Q => ∃ (v : V) (Θ' : Th) (F : Addr → Prop) (b n : Nat) (cap : List (Str × D)) (P : R → Nat → Prop) (E : XD → Nat → Prop), σ[0]? = some (some v) ∧ core Θ' = core Θ ∧ Θ'.cells = none ∧ Rep Θ' F H v (.clo n cap) ∧ Wd Θ' F b H ∧ actM lt n cap P E b ∧
  (∀ r b', P r b' → ∀ v F' H', Ext Θ' F b H F' b' H' → RepR Θ' H F' H' v r → Q v H') ∧ (∀ z b', E z b' → ∀ cls d F' H', Ext Θ' F b H F' b' H' → RepX Θ' F' H' cls d z → W cls d σ H')
theorem pe_actN {lt : LamT} {W : WX} {p1 p2 : Pos} (h : ActX X Y k) (G : GG Y Θ) (L : LamsOk Y Θ k lt) (tk : Takes X W) : PE X (.Call (.Name "action" p1) [] [] p2) (tAct Θ lt W) := by
  refine ⟨fun pins s σ H Q I q => ?_⟩
  obtain ⟨v, Θ', F, b, n, cap, P, E, s0, e1, e2, rep, w, m, ok, ex⟩ := q
  have hv : PE X (.Name "action" p1) (tVar 0) := pe_var (by rw [h.hN]; rfl) (.inl (h.hs _ (by simp [faultN]))) (by decide) (by decide)
  refine wpAny_Call_Name_kw (thn (hv.run pins s σ H (fun v1 H1 => v1 = v ∧ H1 = H) I ⟨v, s0, rfl, rfl⟩) fun u s1 ⟨v1, H1, I1, r1, q1⟩ => ?_)
  obtain ⟨rfl, rfl⟩ := q1
  have fnAt : ∃ f, u = .ref f ∧ PySem.W.FnAt f s1.heap := by
    cases rep with
    | @clo f c' qual params body scope _ cl _ hF hf hF' hc' hlam inj clo =>
      obtain ⟨⟨pm, ctv, of⟩, _, _⟩ := (show ObjOk X.prog X.w H1 s1.heap f (.ext _) from I1.hok f _ hf)
      exact ⟨f, r1, ⟨_, _, _, _, of⟩⟩
  obtain ⟨f, rfl, at_⟩ := fnAt
  refine PySem.W.callWith_F0 at_ ?_
  unfold actM at m
  cases ql : lt n with
  | none => rw [ql] at m; exact m.elim
  | some c =>
    obtain ⟨x, NL⟩ := c
    rw [ql] at m
    obtain ⟨params, body, scope, p, pk, l1, l2, l3, l4, l5⟩ := L n x NL ql
    exact clo_call G pk l1 l2 l3 l4 l5 h.hP h.hw h.hK h.hmg h.hbase h.hr h.hg tk e1 e2 I1 r1 rep w m ok ex
/-! ### the suites -/
/-- the fields of the one caught -/
theorem flds_pa {C a : Addr} {oe : Obj} {cls : Value} {d : Option Addr} {pn : List (Addr × Obj)} (h : ActX X Y k) (T : XfC X.K C) (hz : Zc cls d oe) (hf : ∃ vs, oe.data = .fields vs) :
    ∀ {fs : List Str} {as : List Expr}, isFlds fs as = true → (∀ f ∈ fs, PySem.W.findIn X.K (.ref C) f = some none) → ∃ t, PA (X.suite a ((a, oe) :: pn)) as t ∧ as.all notStar = true ∧
      ∀ (τ : L2.St) (G : Hp) (Q : List V → Hp → Prop) (dd : Addr) (xs : List (Str × V)) (vs : List V), τ[1]? = some (some (.ref a)) → cls = .ref C → d = some dd → G dd = some (.xd xs) → fs.map (fun f => xs.lookup f) = vs.map some → Q vs G → t τ G Q := by
  intro fs
  induction fs with
  | nil =>
    intro as hc _
    cases as with
    | cons => cases hc
    | nil =>
      refine ⟨_, pa_nil, rfl, fun τ G Q dd xs vs _ _ _ _ e q => ?_⟩
      cases vs with
      | nil => exact q
      | cons => cases e
  | cons f fs ih =>
    intro as hc hno
    unfold isFlds at hc
    split at hc
    · rename_i e1; cases e1
    · rename_i f' fs' n p1 g p2 r e1
      cases e1
      simp only [Bool.and_eq_true, decide_eq_true_eq] at hc
      obtain ⟨⟨rfl, rfl⟩, hc⟩ := hc
      obtain ⟨t, ht, hst, k2⟩ := ih hc fun f hf => hno f (List.mem_cons_of_mem _ hf)
      have hv : PE (X.suite a ((a, oe) :: pn)) (.Name "error" p1) (tVar 1) := pe_var (by show X.N[1]? = _; rw [h.hN]; rfl) (.inl (h.hs _ (by simp [faultN]))) (by decide) (by decide)
      refine ⟨_, pa_cons (pe_xf (pos := p2) T (hno _ List.mem_cons_self) hz hf hv) ht (starEach_ns rfl), hst, fun τ G Q dd xs vs s1 e2 e3 e4 e5 q => ?_⟩
      cases vs with
      | nil => cases e5
      | cons v vs =>
        rw [List.map_cons, List.map_cons] at e5
        obtain ⟨e6, e7⟩ := List.cons.inj e5
        exact ⟨_, s1, rfl, e2, dd, xs, v, e3, e4, e6, k2 τ G _ dd xs vs s1 e2 e3 e4 e7 q⟩
    · cases hc
/-- what a suite tells -/
def sTell (Θ : Th) (t : Tell) : SuT := fun a cls d Dn τ G => τ[1]? = some (some (.ref a)) ∧ ∃ (C dd : Addr) (xs : List (Str × V)) (vs : List V), Θ.glb t.1 = some C ∧ cls = .ref C ∧ d = some dd ∧ G dd = some (.xd xs) ∧ t.2.2.map (fun f => xs.lookup f) = vs.map some ∧ vs.length < 100 ∧
  ∀ p, G p = none → Dn.rt (.ref p) (upd G p (.tup (.str t.2.1 :: vs)))
/-- the clauses of the text -/
theorem hds_ok {tab : List Tell} (h : ActX X Y k) (G : GG Y Θ) (hK : Y.K = Θ.K) :
    ∀ {ts : List Tell} {hds : List ExceptHandler}, isHds ts hds = true → TellOk Y Θ X.env.scope tab → (∀ t ∈ ts, t ∈ tab) → ∃ cs : Tell → Value, (∀ t C, Θ.glb t.1 = some C → cs t = .ref C) ∧ ClaN X "error" hds (ts.map fun t => (cs t, sTell Θ t)) := by
  intro ts
  let cs : Tell → Value := fun t => match Θ.glb t.1 with | some C => .ref C | none => .none
  have hcs : ∀ t C, Θ.glb t.1 = some C → cs t = .ref C := fun t C e => by simp only [cs, e]
  suffices H : ∀ {hds : List ExceptHandler}, isHds ts hds = true → TellOk Y Θ X.env.scope tab → (∀ t ∈ ts, t ∈ tab) → ClaN X "error" hds (ts.map fun t => (cs t, sTell Θ t)) from fun {hds} a b c => ⟨cs, hcs, H a b c⟩
  induction ts with
  | nil =>
    intro hds hc _ _
    cases hds with
    | nil => exact .nil
    | cons => cases hc
  | cons t ts ih =>
    intro hds hc T hm
    cases hds with
    | nil => cases hc
    | cons hd hds =>
      have hc' : (isHd t hd && isHds ts hds) = true := hc
      rw [Bool.and_eq_true] at hc'
      refine .cons ?_ (ih hc'.2 T fun t ht => hm t (List.mem_cons_of_mem _ ht))
      obtain ⟨c, tag, fs⟩ := t
      have hc1 := hc'.1
      unfold isHd at hc1
      split at hc1
      · rename_i e1
        cases e1
        rename_i x np n tg j q1 as j2 q2 q3 pp
        simp only [Bool.and_eq_true, decide_eq_true_eq] at hc1
        obtain ⟨⟨⟨rfl, rfl⟩, rfl⟩, hc1⟩ := hc1
        obtain ⟨_, C, g1, T1, T2, T3, T4⟩ := T.cl _ (hm _ List.mem_cons_self)
        have eKK : X.K = Θ.K := h.hK.trans hK
        refine ⟨⟨_, _, _, _, _, rfl, ⟨gl_of T3, (plainName_debug T4).1, .inl ?_⟩, fun a oe cls d pn hz hf => ?_⟩⟩
        · show X.mg _ = some (cs _)
          rw [h.hmg, hcs _ C g1]; exact G.glb _ _ g1
        · obtain ⟨t, ht, hst, k2⟩ := flds_pa (X := X) h (C := C) (by rw [eKK]; exact T1) hz hf hc1 (by rw [eKK]; exact T2)
          refine pssI (pss_one (ps_ret (pe_tup (pa_cons pe_str ht rfl)))) fun Dn τ G' q => ?_
          obtain ⟨s1, C', dd, xs, vs, g', ec, ed, eG, ev, hl, kk⟩ := q
          rw [g1] at g'; cases g'
          exact k2 τ G' _ dd xs vs s1 ec ed eG ev ⟨by rw [List.length_cons, sizeLine_eq]; omega, kk⟩
      · cases hc1
theorem RepF.lookups {F : Addr → Prop} {H : Hp} {xs : List (Str × V)} {zs : List (Str × D)} (r : RepF Θ F H xs zs) {f : Str} {d : D} (e : zs.lookup f = some d) : ∃ v, xs.lookup f = some v ∧ Rep Θ F H v d := by
  induction zs generalizing xs with
  | nil => cases e
  | cons z zs ih =>
    cases r with
    | cons a b =>
      rename_i g v d' vs
      rw [List.lookup_cons] at e
      rw [List.lookup_cons]
      cases q : f == g with
      | true => rw [q] at e; cases e; exact ⟨v, rfl, a⟩
      | false => rw [q] at e; exact ih b e
theorem RepF.looks {F : Addr → Prop} {H : Hp} {xs : List (Str × V)} {zs : List (Str × D)} (r : RepF Θ F H xs zs) : ∀ {fs : List Str} {ds : List D}, fs.map (fun f => zs.lookup f) = ds.map some → ∃ vs, fs.map (fun f => xs.lookup f) = vs.map some ∧ RepL Θ F H vs ds
  | [], [], _ => ⟨[], rfl, .nil⟩
  | [], _ :: _, e => by cases e
  | _ :: _, [], e => by cases e
  | f :: fs, d :: ds, e => by
    rw [List.map_cons, List.map_cons] at e
    obtain ⟨e1, e2⟩ := List.cons.inj e
    obtain ⟨v, q1, q2⟩ := r.lookups e1
    obtain ⟨vs, q3, q4⟩ := RepF.looks r e2
    exact ⟨v :: vs, by rw [List.map_cons, List.map_cons, q1, q3], .cons q2 q4⟩
/-- what is told of an error -/
theorem asks_ok {sc : Scope} {tab : List Tell} {cs : Tell → Value} {out : WX} {Dn : Ends} {τ : L2.St} {Θ' : Th} {F F' : Addr → Prop} {b b' : Nat} {H H' : Hp} {z : XD} {P : R → Nat → Prop} {cls : Value} {d : Option Addr} (eΘ : core Θ' = core Θ) (T : TellOk Y Θ sc tab) (hcs : ∀ t C, Θ.glb t.1 = some C → cs t = .ref C)
    (w : Wd Θ' F b H) (hin : z.cls ∈ tab.map (·.1)) (x : Ext Θ' F b H F' b' H') (rx : RepX Θ' F' H' cls d z) (hl : 1 < τ.length) (ok : ∀ r b', P r b' → ∀ v F' H', Ext Θ' F b H F' b' H' → RepR Θ' H F' H' v r → Dn.rt v H') :
    ∀ {ts : List Tell}, (∀ t ∈ ts, t ∈ tab) → tellK ts z P b' → asks Θ.K 1 out Dn cls d τ H' (ts.map fun t => (cs t, sTell Θ t)) := by
  obtain ⟨_, eglb, _⟩ := core_eq eΘ
  obtain ⟨C, rfl, g, hd⟩ := rx
  rw [eglb] at g
  intro ts
  induction ts with
  | nil => intro _ k; exact k.elim
  | cons t ts ih =>
    intro hm k
    obtain ⟨c, tag, fs⟩ := t
    have ht := hm _ List.mem_cons_self
    obtain ⟨ne, C', g', _⟩ := T.cl _ ht
    have q := T.ex z.cls hin c (List.mem_map_of_mem (f := (·.1)) ht) C C' g g'
    unfold tellK at k
    by_cases hz : z.cls = c
    · rw [if_pos hz] at k
      obtain ⟨ds, e1, e2, hp⟩ := k
      simp only [List.map_cons, asks, hcs _ C' g', q, hz, decide_true]
      intro a na
      have eC : C' = C := by rw [← hz] at g'; rw [g] at g'; exact (Option.some.inj g').symm
      subst eC
      rcases hd with ⟨_, e3⟩ | ⟨dx, xs, e3, e4, rf⟩
      · rw [e3] at e1
        cases fs with
        | nil => exact absurd rfl ne
        | cons f fs => cases ds <;> simp at e1
      · obtain ⟨vs, e5, rl⟩ := rf.looks e1
        refine ⟨List.getElem?_set_self hl, C', dx, xs, vs, g', rfl, e3, e4, e5, by rw [rl.length]; exact e2, fun p np => ?_⟩
        have w' := w.ext x
        have y := Ext.new (Θ := Θ') (F := F') (b := b') (o := .tup (.str tag :: vs)) np noTab_tup w'
        exact ok _ _ hp _ _ _ (x.trans y w) (Rep.tup (.inr rfl) upd_same ((RepL.cons (.str tag) rl).ext y w'))
    · rw [if_neg hz] at k
      simp only [List.map_cons, asks, hcs _ C' g', q, hz, decide_false]
      exact ih (fun t ht => hm t (List.mem_cons_of_mem _ ht)) k
end
end VL
end
-- V28
section
set_option Elab.async false
set_option linter.all false
set_option maxRecDepth 100000
set_option maxHeartbeats 4000000
/-! The def that tells errors. -/
namespace VL
open PySem PySem.Spec PyProof.Rows
open L2 hiding St
theorem fault_fn {Y : Wo} {Θ : Th} {k : Nat} {x : Str} {f : Addr} {name qual : Str} {params : Arguments} {body : List Stmt} {scope : Scope} {dV kV doc pm cdv ct oc : Value} {an od : Option Addr} {osl : Array (Option Value)} {tab : List Tell} {lt : LamT}
    (G : GG Y Θ) (lk : Y.K.lookup f = some ⟨oc, od, .func (PySem.W.fnOf name qual params body scope dV kV doc pm an cdv ct), osl⟩) (hcd : PySem.W.codeIn Y.K cdv qual = true) (S : FnScope faultN ["action"] scope) (hs : ∀ x ∈ faultN, scope.names.lookup x = some .local)
    (hm : Y.mg x = some (.ref f)) (hk : PySem.W.keepIn Y.K (.ref f) = true) (hb : Binds Y.K (PySem.W.fnOf name qual params body scope dV kV doc pm an cdv ct) ["action"] []) (hc : isFault tab body = true) (T : TellOk Y Θ scope tab) (L : LamsOk Y Θ k lt) :
    FnM Y Θ (k + 2) x (faultM tab lt) := by
  refine cal_of (ps := ["action"]) (fnG_of lk hcd S (fun vs H Q E h => ?_) fun A fr s H vs Q E hr hg h => ?_) hm hk hb
  · obtain ⟨pa, pc, cm, F, b, ds, P', E', Θ', eΘ, rl, w, m, _⟩ := h
    rw [rl.length]
    cases ds with
    | nil => exact m.elim
    | cons d ds =>
      cases ds with
      | nil => rfl
      | cons => cases d <;> exact m.elim
  · obtain ⟨pa, pc, cm, F, b, ds, P', E', Θ', eΘ, rl, w, m, p1, p2⟩ := h
    have eC : core Θ' = core Θ := by rw [eΘ]; rfl
    have ecl : Θ'.cells = none := by rw [eΘ]
    let X := bodyX Y faultN qual scope f cdv A fr s H E
    have hX : ActX X Y k := ⟨rfl, rfl, rfl, rfl, rfl, hr, hg, rfl, hs⟩
    unfold isFault at hc
    split at hc
    · rename_i a q1 q2 q3 j q4 q5 h0 hds q6
      simp only [Bool.and_eq_true, decide_eq_true_eq] at hc
      obtain ⟨rfl, hc⟩ := hc
      obtain ⟨cs, hcs, cl⟩ := hds_ok (X := X) (tab := tab) hX G G.hK hc T (fun _ h => h)
      refine ⟨_, pss_one (ps_tryN (X := X) (n := "error") (i := 1) (out := fun _ _ _ _ => False) rfl rfl S.nd rfl (hs _ (by simp [faultN])) takes_none5
        (fun W pn xe tk _ => pss_cons (ps_expr (pe_actN (hX.tr pn xe) G L tk) rfl) (pss_one (ps_ret pe_non))) cl), ?_⟩
      cases rl with
      | nil => exact m.elim
      | @cons v d vs ds rv rl2 =>
        cases rl2 with
        | cons => cases d <;> exact m.elim
        | nil =>
          cases d <;> try exact m.elim
          rename_i n cap
          refine ⟨v, Θ', F, b, n, cap, _, _, rfl, eC, ecl, rv, w, m, fun r b' hp v' F' H' x rr => ?_, fun z b' hz cls d F' H' x rx => ?_⟩
          · exact p1 _ _ hp _ _ _ x Rep.non
          · have := asks_ok (Θ := Θ) (out := fun _ _ _ _ => False) (Dn := { nx := fun _ H' => Q .non H', rt := Q }) (τ := L2.start faultN [v]) (cs := cs) eC T hcs w hz.1 x rx (by show 1 < 2; decide) (fun r b' h v F' H' l r' => p1 r b' h v F' H' l r') (fun _ h => h) hz.2
            show asks Y.K 1 _ _ cls d _ H' _
            rw [G.hK]
            exact this
    · cases hc
end VL
end
-- V37
section
set_option Elab.async false
set_option linter.all false
set_option maxRecDepth 100000
set_option maxHeartbeats 4000000
/-! The head: facts of the written part, by looks that compute. -/
namespace VL
open PySem PySem.Spec PyProof.Rows
open L2 hiding St
/-- gcd is math's -/
def exGcd (K : PySem.W.Frag) : Bool := He.eqO (PySem.W.nsIn K mainGlobals "gcd") (some (some (.builtin "math.gcd")))
/-- the base of the errors -/
def exBase (K : PySem.W.Frag) (C : Addr) : Bool := PySem.W.readsIn K C (.type "type") && (He.eqO (PySem.W.specialIn K (.ref C) "__getattribute__") (some (some (.builtin "type.__getattribute__"))) && (match PySem.W.findCls K (.ref C) (.type "type") "__init__" with
  | some (.val (.builtin x)) => decide (x = "ValueError.__init__")
  | _ => false))
theorem exBase_ok {K : PySem.W.Frag} {C : Addr} (h : exBase K C = true) : LErr K C := by
  unfold exBase at h
  simp only [Bool.and_eq_true] at h
  obtain ⟨h1, h2, h3⟩ := h
  refine ⟨h1, He.eqO_ok h2, ?_⟩
  split at h3
  · rename_i x e
    rw [decide_eq_true_eq] at h3
    rw [e, h3]
  · cases h3
/-- an error class of one's own, with its fields -/
def exObj (K : PySem.W.Frag) (C : Addr) : Bool := match K.lookup C with
  | some ⟨.type c, _, .cls cd, sl⟩ => decide (c = "type") && (match cd.mro, sl.toList with
    | .ref C' :: bm, [_, _, _, _, some (.builtin n), _] => decide (C' = C) && (decide (n = "ValueError.__new__") && (!cd.hasDel && (cd.hasDict && PySem.HandSPX.refsVE bm)))
    | _, _ => false)
  | _ => false
theorem exObj_ok {K : PySem.W.Frag} {C : Addr} (h : exObj K C = true) : ∃ nm q N bs bm sn sub ab col dd k0 k1 k2 k3 k5, K.lookup C = some (excClassObj nm q C N bs bm true sn sub ab col dd k0 k1 k2 k3 k5 "ValueError.__new__") ∧ PySem.HandSPX.refsVE bm = true := by
  unfold exObj at h
  split at h
  · rename_i c dd cd sl ho
    rw [Bool.and_eq_true, decide_eq_true_eq] at h
    obtain ⟨rfl, h⟩ := h
    split at h
    · rename_i C' bm k0 k1 k2 k3 n k5 hm hs
      simp only [Bool.and_eq_true, decide_eq_true_eq, Bool.not_eq_true'] at h
      obtain ⟨rfl, rfl, h1, h2, h3⟩ := h
      obtain ⟨nm, bs, mro, ns, qn, hd, sn, sub, ab, col, del⟩ := cd
      dsimp only at hm h1 h2
      subst hm h1 h2
      have hsl : sl = #[k0, k1, k2, k3, some (.builtin "ValueError.__new__"), k5] := by
        obtain ⟨l⟩ := sl
        simp only at hs
        rw [hs]
      subst hsl
      exact ⟨nm, qn, ns, bs, bm, sn, sub, ab, col, dd, k0, k1, k2, k3, k5, ho, h3⟩
    · cases h
  · cases h
def exErr (K : PySem.W.Frag) (C : Addr) (fs : List Str) : Bool := exObj K C && (He.eqO (PySem.W.findIn K (.ref C) "__setattr__") (some (some (.builtin "object.__setattr__"))) && (decide (PySem.W.subIn K (.ref C) (.type "BaseException") = some true) && (decide (PySem.W.typeIn K (.ref C) = some (.type "type")) && (PySem.W.keepIn K (.ref C) &&
  (xfB K C && ((fs.all fun f => He.eqO (PySem.W.findIn K (.ref C) f) (some none)) && (He.eqO (PySem.W.findIn K (.ref C) "__init__") (some (some (.ref (He.ma K C "__init__")))) && decide (PySem.W.typeIn K (.ref (He.ma K C "__init__")) = some (.type "function")))))))))
structure ErrC (K : PySem.W.Frag) (C : Addr) (fs : List Str) : Prop where
  o : OexC K C
  x : XfC K C
  f : ∀ f ∈ fs, PySem.W.findIn K (.ref C) f = some none
  i : PySem.W.findIn K (.ref C) "__init__" = some (some (.ref (He.ma K C "__init__")))
  t : PySem.W.typeIn K (.ref (He.ma K C "__init__")) = some (.type "function")
theorem exErr_ok {K : PySem.W.Frag} {C : Addr} {fs : List Str} (h : exErr K C fs = true) : ErrC K C fs := by
  unfold exErr at h
  simp only [Bool.and_eq_true, decide_eq_true_eq, List.all_eq_true] at h
  obtain ⟨h1, h2, h3, h4, h5, h6, h7, h8, h9⟩ := h
  exact ⟨⟨exObj_ok h1, He.eqO_ok h2, h3, h4, h5⟩, xfB_ok h6, fun f hf => He.eqO_ok (h7 f hf), He.eqO_ok h8, h9⟩
/-- which errors a clause takes: its own class alone -/
def exAll (K : PySem.W.Frag) (cs : List Str) : Bool := cs.all fun c => cs.all fun c' => decide (PySem.W.exmOne K (.ref (He.ga K c)) (.ref (He.ga K c')) = some (decide (c = c')))
theorem exAll_ok {K : PySem.W.Frag} {cs : List Str} (h : exAll K cs = true) : ∀ c ∈ cs, ∀ c' ∈ cs, PySem.W.exmOne K (.ref (He.ga K c)) (.ref (He.ga K c')) = some (decide (c = c')) := fun c hc c' hc' => by
  unfold exAll at h
  have h1 := List.all_eq_true.mp h c hc
  exact of_decide_eq_true (List.all_eq_true.mp h1 c' hc')
/-! ### the Hook: what the module's names reach, and the two tables of the machine -/
def asV (g : Addr → Option Obj) (n : Nat) : List Addr := He.asD g n ++ [cStatics, sysModules]
def obsV (n : Nat) (fa : List He.Fa) (fn : List He.DefD) (tf : List He.Defn) (ex : PySem.W.Frag → Bool) (g : Addr → Option Obj) : He.AlD × Bool := (He.obsD fa fn (He.frT g (asV g n)), ex (He.frT g (asV g n)) && He.tabsB g tf (He.frT g (asV g n)))
def valV (fn : List He.DefD) : He.AlD × Bool := (He.valD fn, true)
structure SaysV (fa : List He.Fa) (fn : List He.DefD) (tf : List He.Defn) (ex : PySem.W.Frag → Bool) (h : Heap) (K : PySem.W.Frag) : Prop where
  d : He.SaysD fa fn K
  more : ex K = true
  hd : ∀ p ∈ tf, PySem.W.codeHdIn K (He.cT K p).1 (He.cT K p).2 = true
  out : ∀ p ∈ tf, K.lookup (He.cT K p).2 = none
  empty : ∀ p ∈ tf, h.get? (He.cT K p).2 = some { cls := .none, data := .fields #[] }
theorem saysV_of {n : Nat} {fa : List He.Fa} {fn : List He.DefD} {tf : List He.Defn} {ex : PySem.W.Frag → Bool} {h : Heap} (e : obsV n fa fn tf ex h.get? = valV fn) : SaysV fa fn tf ex h (He.frT h.get? (asV h.get? n)) := by
  have e1 : He.obsD fa fn (He.frT h.get? (asV h.get? n)) = He.valD fn := congrArg (fun z : He.AlD × Bool => z.1) e
  have e2 : (ex (He.frT h.get? (asV h.get? n)) && He.tabsB h.get? tf (He.frT h.get? (asV h.get? n))) = true := congrArg (fun z : He.AlD × Bool => z.2) e
  obtain ⟨h1, h2⟩ := He.ba e2
  have key : ∀ p ∈ tf, PySem.W.codeHdIn (He.frT h.get? (asV h.get? n)) (He.cT (He.frT h.get? (asV h.get? n)) p).1 (He.cT (He.frT h.get? (asV h.get? n)) p).2 = true ∧ ∃ o, h.get? (He.cT (He.frT h.get? (asV h.get? n)) p).2 = some o ∧ He.emptyTab o = true := fun p hp => by
    obtain ⟨h3, h4⟩ := He.ba (List.all_eq_true.mp h2 p hp)
    refine ⟨h3, ?_⟩
    cases q : h.get? (He.cT (He.frT h.get? (asV h.get? n)) p).2 with
    | none => rw [q] at h4; cases h4
    | some o => rw [q] at h4; exact ⟨o, rfl, h4⟩
  refine ⟨e1, h1, fun p hp => (key p hp).1, fun p hp => ?_, fun p hp => ?_⟩
  · obtain ⟨_, o, q, z⟩ := key p hp
    exact He.frT_none q z
  · obtain ⟨_, o, q, z⟩ := key p hp
    rw [q, He.emptyTab_eq z]
def hookV (n : Nat) (fa : List He.Fa) (fn : List He.DefD) (tf : List He.Defn) (ex : PySem.W.Frag → Bool) : PySem.W.Hook where
  α := He.AlD × Bool
  obs := fun s => obsV n fa fn tf ex s.heap.get?
  val := fun _ => valV fn
  says := fun _ h => ∃ K : PySem.W.Frag, K.In h ∧ SaysV fa fn tf ex h K
  of := fun _ _ e => ⟨_, He.frT_in, saysV_of e⟩
  keeps := fun _ _ _ ⟨K, hK, c⟩ k => ⟨K, PySem.W.Frag.In.keeps hK k, ⟨c.d, c.more, c.hd, c.out, fun p hp => k _ _ (c.empty p hp)⟩⟩
theorem obsV_eq {n : Nat} {fa : List He.Fa} {fn : List He.DefD} {tf : List He.Defn} {ex : PySem.W.Frag → Bool} {g : Addr → Option Obj} {s : Shared} (h : ∀ a, g a = s.heap.get? a) : obsV n fa fn tf ex g = (hookV n fa fn tf ex).obs s := by
  have e : g = s.heap.get? := funext h
  rw [e] <;> rfl
end VL
end
-- V38
section
set_option Elab.async false
set_option linter.all false
set_option maxRecDepth 100000
set_option maxHeartbeats 4000000
/-! The pen is made. -/
namespace VL
open PySem PySem.Spec PyProof.Rows
open L2 hiding St
def penN : List Str := ["script", "fold", "cell"]
def isPen : List Stmt → Bool
  | [.Assign [.Name f0 _] (.Constant (.int i0) _ _) _,
     .For (.Name c1 _) (.Name s1 _) [.Assign [.Name f1 _] (.BinOp (.Call (.Name n1 _) [.BinOp (.BinOp (.Name f2 _) .Mult (.Constant (.int i2) _ _) _) .Add (.Name c2 _) _] [] _) .Mod (.Constant (.int i3) _ _) _) _] [] _,
     .Return (some (.Dict [some (.Constant (.str k1) _ _), some (.Constant (.str k2) _ _), some (.Constant (.str k3) _ _), some (.Constant (.str k4) _ _), some (.Constant (.str k5) _ _)]
       [.Call (.Name l1 _) [.Name s2 _] [] _, .Constant (.int z1) _ _, .Constant (.int z2) _ _, .Constant (.int z3) _ _, .Name f3 _] _)) _] =>
    decide (f0 = "fold") && (decide (i0 = 0) && (decide (c1 = "cell") && (decide (s1 = "script") && (decide (f1 = "fold") && (decide (n1 = "int") && (decide (f2 = "fold") && (decide (i2 = 193) && (decide (c2 = "cell") && (decide (i3 = 999999131) &&
    (decide (k1 = "cells") && (decide (k2 = "at") && (decide (k3 = "digits") && (decide (k4 = "count") && (decide (k5 = "fold") && (decide (l1 = "list") && (decide (s2 = "script") && (decide (z1 = 0) && (decide (z2 = 0) && (decide (z3 = 0) && decide (f3 = "fold"))))))))))))))))))))
  | _ => false
structure PenX (X : Cx) : Prop where
  hN : X.N = penN
  hs : ∀ x ∈ penN, X.env.scope.names.lookup x = some .local
  gl : Gl X "list"
  gi : Gl X "int"
  ml : X.mg "list" = none
  mi : X.mg "int" = none
  hc : X.calm = true
  hp : PassesOwn (model X.prog X.w) X.A X.env X.xe
section
variable {X : Cx}
theorem PenX.v (h : PenX X) (i : Nat) {x : Str} {q : Pos} (e : penN[i]? = some x) (hp : plainName x = true) : PE X (.Name x q) (tVar i) :=
  pe_var (by rw [h.hN]; exact e) (.inl (h.hs x (List.mem_of_getElem? e))) (plainName_debug hp).1 (plainName_debug hp).2
theorem PenX.set (h : PenX X) (i : Nat) {x : Str} {q1 q2 : Pos} {a : Expr} {te : TE} (e : penN[i]? = some x) (ha : PE X a te) (hs : noSw a = true) : PS X (.Assign [.Name x q1] a q2) (tAsg te (gName i)) := by
  have l := h.hs x (List.mem_of_getElem? e)
  exact ps_set (by rw [h.hN]; decide) (by rw [h.hN]; exact e) (.inl l) ha (sw_no hs) (.inr l)
theorem PenX.int (h : PenX X) {a : Expr} {te : TE} {q1 q2 : Pos} (ha : PE X a te) (hs : notStar a = true) : PE X (.Call (.Name "int" q1) [a] [] q2) (tCB (fun xs H Q => (∃ i, xs = [V.int i] ∧ Q (.int i) H) ∨ ∃ k, xs = [V.bl k] ∧ Q (.int (if k then 1 else 0)) H) (tCons te tNil)) :=
  pe_callTy call_int1 h.gi h.mi (by decide +kernel) (pa_cons ha pa_nil (starEach_ns hs)) (by decide) (by decide) (starEach_ns hs) rfl
theorem PenX.list (h : PenX X) {a : Expr} {te : TE} {q1 q2 : Pos} (ha : PE X a te) (hs : notStar a = true) : PE X (.Call (.Name "list" q1) [a] [] q2) (tCB (fun v H1 Q => ∃ p ys, v = [V.ref p] ∧ (SqL X.K H1 p ys ∨ SqT X.K H1 p ys) ∧ ∀ l, H1 l = none → Q (.ref l) (upd H1 l (.lst ys))) (tCons te tNil)) :=
  pe_callTy call_list_of h.gl h.ml (by decide +kernel) (pa_cons ha pa_nil (starEach_ns hs)) (by decide) (by decide) (starEach_ns hs) rfl
theorem PenX.nm (h : PenX X) (i : Nat) {x : Str} {q : Pos} (e : penN[i]? = some x) : PG X (.Name x q) (gName i) := by
  have l := h.hs x (List.mem_of_getElem? e)
  exact pg_name (by rw [h.hN]; decide) (by rw [h.hN]; exact e) (.inl l) (.inr l)
theorem pen_pss (h : PenX X) {body : List Stmt} (hc : isPen body = true) {a : Addr} {ns : List Int} {H : Hp} {Q : VK} (hS : SqL X.K H a (ns.map V.int))
    (ok : ∀ (p l : Addr) (fo : Int) (H' : Hp), H p = none → H l = none → p ≠ l → (∀ b, b ≠ p → b ≠ l → H' b = H b) → H' p = some (.dK (penL l 0 0 0 fo)) → H' l = some (.lst (ns.map V.int)) → 0 ≤ fo → fo < 2 ^ 32 → Q (.ref p) H') :
    ∃ t, PSs X body t ∧ t { nx := fun _ H' => Q .non H', rt := Q } (L2.start penN [.ref a]) H := by
  unfold isPen at hc
  split at hc
  · simp only [Bool.and_eq_true, decide_eq_true_eq] at hc
    obtain ⟨rfl, rfl, rfl, rfl, rfl, rfl, rfl, rfl, rfl, rfl, rfl, rfl, rfl, rfl, rfl, rfl, rfl, rfl, rfl, rfl, rfl⟩ := hc
    refine ⟨_, pss_cons (h.set 1 rfl pe_int rfl) (pss_cons (ps_for h.hp h.hc (pi_list (h.v 0 rfl (by decide))) (h.nm 2 rfl)
      (pss_one (h.set 1 rfl (pe_op op_modN (h.int (pe_op op_add (pe_op op_mulX (h.v 1 rfl (by decide)) pe_int) (h.v 2 rfl (by decide))) rfl) pe_int) rfl)))
      (pss_one (ps_ret (pe_disp (pps_cons pe_str (h.list (h.v 0 rfl (by decide)) rfl) (pps_cons pe_str pe_int (pps_cons pe_str pe_int (pps_cons pe_str pe_int (pps_cons pe_str (h.v 1 rfl (by decide)) pps_nil))))) rfl rfl (by simp) (by simp))))), ?_⟩
    refine ⟨_, rfl, a, rfl, ⟨_, hS⟩, for_list (K := X.K) (a := a) (xs := ns.map V.int) (fun i σ H2 => H2 = H ∧ ∃ (fo : Int) (v : Option V), σ = [some (.ref a), some (.int fo), v] ∧ 0 ≤ fo ∧ fo < 2 ^ 32) ?_ ?_ ?_ ?_⟩
    · exact ⟨rfl, 0, none, rfl, by omega, by omega⟩
    · rintro i σ H2 _ ⟨rfl, _⟩; exact hS
    · rintro i x σ H2 hx ⟨rfl, fo, v, rfl, f1, f2⟩
      rw [List.getElem?_map] at hx
      obtain ⟨n, _, rfl⟩ := Option.map_eq_some_iff.mp hx
      refine ⟨_, rfl, fo, 193, rfl, rfl, mulX_small (n := 64) (m := 64) (by omega) (by omega) (by omega), .int n, rfl, _, n, rfl, rfl, .inl ⟨_, rfl, _, 999999131, rfl, rfl, by omega, ?_⟩⟩
      exact ⟨rfl, _, _, rfl, Int.fmod_nonneg_of_pos _ (by omega), Int.lt_trans (Int.fmod_lt_of_pos _ (by omega)) (by omega)⟩
    · rintro σ H2 ⟨rfl, fo, v, rfl, f1, f2⟩
      intro p np
      refine ⟨_, rfl, a, ns.map V.int, rfl, .inl ?_, fun l nl => ?_⟩
      · exact hS.imp (fun z => z.imp (fun e => by rw [upd_ne (fun y => by rw [y, np] at e; cases e)]; exact e) (fun ⟨o, e⟩ => ⟨o, by rw [upd_ne (fun y => by rw [y, np] at e; cases e)]; exact e⟩)) id
      · have hpl : p ≠ l := fun z => by rw [← z, upd_same] at nl; cases nl
        have nl2 : H2 l = none := by rw [upd_ne (Ne.symm hpl)] at nl; exact nl
        refine ⟨_, rfl, ?_, penL l 0 0 0 fo, rfl, by simp [penL], ?_⟩
        · rw [upd_ne hpl]; exact upd_same
        · refine ok p l fo _ np nl2 hpl (fun b h1 h2 => ?_) ?_ ?_ f1 f2
          · rw [upd_ne h1, upd_ne h2, upd_ne h1]
          · rw [upd_same]
            congr 2
          · rw [upd_ne (Ne.symm hpl)]; exact upd_same
  · cases hc
end
/-- the pen's promise -/
def spPen (K : PySem.W.Frag) : Sp := fun vs H Q _ => ∃ (a : Addr) (ns : List Int), vs = [.ref a] ∧ SqL K H a (ns.map V.int) ∧
  ∀ (p l : Addr) (fo : Int) (H' : Hp), H p = none → H l = none → p ≠ l → (∀ b, b ≠ p → b ≠ l → H' b = H b) → H' p = some (.dK (penL l 0 0 0 fo)) → H' l = some (.lst (ns.map V.int)) → 0 ≤ fo → fo < 2 ^ 32 → Q (.ref p) H'
theorem pen_fn {Y : Wo} {Θ : Th} {k : Nat} {f : Addr} {fd : FuncData} {params : Arguments} {body : List Stmt} {scope : Scope} (G : GG Y Θ) (F : FunD Y.K "_law_pen" "_law_pen" params body scope [] [] f fd) (S : FnScope penN ["script"] scope) (hc : isPen body = true)
    (hv : ∀ x ∈ penN, scope.names.lookup x = some .local) (hl : scope.names.lookup ("list" : Str) = some .globalImplicit) (hi : scope.names.lookup ("int" : Str) = some .globalImplicit) (hm : Y.mg "_law_pen" = some (.ref f)) (hb : Binds Y.K fd ["script"] []) : Cal Y (k + 1) "_law_pen" (spPen Y.K) := by
  obtain ⟨⟨oc, od, dV, kV, doc, pm, an, cdv, ct, osl, rfl, lk, hcd, _, _⟩, kp⟩ := F
  refine cal_of (fnG_of lk hcd S (fun vs H Q E h => ?_) fun A fr s H vs Q E hr hg h => ?_) hm kp hb
  · obtain ⟨a, ns, rfl, _⟩ := h; rfl
  · obtain ⟨a, ns, rfl, hS, ok⟩ := h
    exact pen_pss (X := bodyX Y penN "_law_pen" scope f cdv A fr s H E) ⟨rfl, hv, hl, hi, G.free _ (by decide), G.free _ (by decide), rfl, passes_of rfl⟩ hc hS ok
/-- a call by a promise -/
theorem pe_cal {X : Cx} {Y : Wo} {k : Nat} {x : Str} {sp : Sp} {W : WX} {a : Expr} {as : List Expr} {ta : TA} {p pos : Pos} (G : KX X Y Θ k W) (hc : Cal Y k x sp) (hg : Gl X x) (hp : plainName x = true) (h : PA X (a :: as) ta) (hs : (a :: as).all notStar = true) :
    PE X (.Call (.Name x p) (a :: as) [] pos) (fun σ H Q => ta σ H fun vs H1 => sp vs H1 Q fun cls d H' => W cls d σ H') := by
  obtain ⟨f, hm, hk, run, _⟩ := hc
  rw [List.all_cons, Bool.and_eq_true] at hs
  refine ⟨fun pins s σ H Q I hq => ?_⟩
  refine wpAny_Call_Name_kw (ld_glob I hg (by rw [G.hmg]; exact hm) ?_ (plainName_debug hp).1)
  refine PySem.W.callWith_K (h₀ := X.base) I.ok.mod.kin (by rw [G.hK]; exact hk) (thn (h.run pos pins s σ H _ I hq) fun us s1 ⟨vs, H1, I1, r, q⟩ => ⟨I1.kIn, ?_⟩) (starEach_ns hs.1) (plain_ns hs.2)
  exact run X G.hP G.hw G.hK G.hmg G.hbase G.room G.grd W G.tk pins s1 σ H1 us vs Q I1 r q
end VL
end
-- V39
section
set_option Elab.async false
set_option linter.all false
set_option maxRecDepth 100000
set_option maxHeartbeats 4000000
/-! The end of a law: its call from outside, told of that very caller. -/
namespace VL
open PySem PySem.Spec PyProof.Rows
open L2 hiding St
/-- an empty table of code objects -/
abbrev tabO : Obj := { cls := .none, data := .fields #[] }
abbrev scrO (us : List Value) : Obj := { cls := .type "list", data := .seq us.toArray }
/-- what is tracked at the law's entry: its table; the script, unless it is written -/
def H₀ (K : PySem.W.Frag) (tb a : Addr) (us : List Value) (ns : List Int) : Hp := fun b =>
  if b = tb then some (.tbl #[]) else if b = a ∧ K.lookup a = none then some (.frz (scrO us) (.lst (ns.map V.int))) else none
theorem H₀_tb {K : PySem.W.Frag} {tb a : Addr} {us : List Value} {ns : List Int} : H₀ K tb a us ns tb = some (.tbl #[]) := if_pos rfl
theorem H₀_at {K : PySem.W.Frag} {tb a b : Addr} {us : List Value} {ns : List Int} {u : HO} (h : H₀ K tb a us ns b = some u) : (b = tb ∧ u = .tbl #[]) ∨ (b = a ∧ K.lookup a = none ∧ u = .frz (scrO us) (.lst (ns.map V.int))) := by
  unfold H₀ at h
  split at h
  · rename_i e; cases h; exact .inl ⟨e, rfl⟩
  · split at h
    · rename_i e; cases h; exact .inr ⟨e.1, e.2, rfl⟩
    · cases h
theorem law_end {P : Program} {w : World} {K : PySem.W.Frag} {mg mb : Str → Option Value} {fa a c tb : Addr} {s : Shared} {us : List Value} {ns : List Int} {CX : CXT}
    (inK : K.In s.heap) (globs : s.heap.Ns mainGlobals mg) (blt : s.heap.Ns builtinsNs mb) (bltB : ∀ x : Str, x ≠ "__name__" → mb x = bootBuiltins x) (nolim : s.heap.NoLimit) (nogen : s.gens = #[])
    (eTb : s.heap.get? tb = some tabO) (nTb : K.lookup tb = none) (hd : PySem.W.CodeHd s.heap c tb)
    (bm : ∃ (b : Addr) (o : Obj), mg "__builtins__" = some (.ref b) ∧ b ≠ builtinsNs ∧ s.heap.get? b = some o ∧ o.cls = .type "module" ∧ o.dict = some builtinsNs ∧ o.data = .plain)
    (eA : s.heap.get? a = some (scrO us)) (hIn : IntsAre us ns) (hlen : ns.length ≤ sizeLine)
    (F : ∀ (base : Heap) (H : Hp), K.In base → LamX.TabB base mg c tb → Env0 P w K mg base callerA [] s H → H tb = some (.tbl #[]) → SqL K H a (ns.map V.int) →
      codeAny (model P w) callerA (.call (.ref fa) ⟨[.ref a], []⟩) (CR CX [] P w H s (fun v _ => v = .bl true) fun _ _ _ => False) s)
    (noX : ∀ H e s', CX [] H s (fun _ _ _ => False) e s' → False) :
    codeAny (model P w) callerA (.call (.ref fa) ⟨[.ref a], []⟩) (fun r s' => r = .ok (.ret (.bool true)) ∧ OldK s.heap s'.heap ∧ s'.os = s.os ∧ AllBare s'.gens) s := by
  let H := H₀ K tb a us ns
  -- off the two places nothing is tracked
  have off : ∀ {b : Addr} {o : Obj}, s.heap.get? b = some o → o ≠ tabO → o ≠ scrO us → H b = none := fun {b o} e h1 h2 => by
    cases q : H b with
    | none => rfl
    | some u =>
      rcases H₀_at q with ⟨rfl, _⟩ | ⟨rfl, _, _⟩
      · exact absurd (Option.some.inj (e.symm.trans eTb)) h1
      · exact absurd (Option.some.inj (e.symm.trans eA)) h2
  have offK : ∀ {b : Addr} {o : Obj}, K.lookup b = some o → H b = none := fun {b o} e => by
    cases q : H b with
    | none => rfl
    | some u =>
      rcases H₀_at q with ⟨rfl, _⟩ | ⟨rfl, n, _⟩
      · rw [nTb] at e; cases e
      · rw [n] at e; cases e
  have nsB : ∀ {b : Addr} {m : Str → Option Value}, s.heap.Ns b m → (hidT s.heap H).Ns b m := fun {b m} x => by
    obtain ⟨o, es, ep, e, dd, r⟩ := x
    refine ⟨o, es, ep, hidT_get e (off e ?_ ?_), dd, r⟩
    · rintro rfl; cases dd
    · rintro rfl; cases dd
  have inB : K.In (hidT s.heap H) := fun b o e => hidT_get (inK b o e) (offK e)
  have md : L2.Mod K mg (hidT s.heap H) := by
    obtain ⟨mc, l1, l2⟩ := nolim
    exact ⟨inB, nsB globs, ⟨mb, nsB blt, bltB⟩, ⟨mc, nsB l1, l2⟩⟩
  have ne : ∀ {b : Addr} {m : Str → Option Value}, s.heap.Ns b m → b ≠ tb := fun {b m} ⟨o, es, ep, e, dd, _⟩ q => by
    rw [q, eTb] at e; cases e; cases dd
  have TB : LamX.TabB (hidT s.heap H) mg c tb := by
    refine ⟨?_, ?_, ne globs⟩
    · obtain ⟨o, cs, file, tf, flags, tg, inF, text, tt, e, k1, k2, k3, kr⟩ := hd
      refine ⟨o, cs, file, tf, flags, tg, inF, text, tt, hidT_get e (off e ?_ ?_), k1, k2, k3, kr⟩
      · rintro rfl; cases k2; simp at k3
      · rintro rfl; cases k2
    · obtain ⟨b, o, m1, m2, m3, m4, m5, m6⟩ := bm
      have n1 : b ≠ tb := fun q => by rw [q, eTb] at m3; cases m3; cases m6
      have n2 : b ≠ mainGlobals := fun q => by
        obtain ⟨o', es, ep, e, dd, _⟩ := globs
        rw [q, e] at m3; cases m3; rw [dd] at m6; cases m6
      refine ⟨b, o, m1, m2, n2, n1, hidT_get m3 (off m3 ?_ ?_), m4, m5, m6⟩
      · rintro rfl; cases m6
      · rintro rfl; cases m6
  have rel := vals_ints hIn
  have hl := hIn.length
  have hok : HOk P w H s.heap := fun b u q => by
    rcases H₀_at q with ⟨rfl, rfl⟩ | ⟨rfl, _, rfl⟩
    · exact eTb
    · exact ⟨eA, by rw [List.length_map]; exact hlen, us, _, rel, eA⟩
  have e0 : Env0 P w K mg (hidT s.heap H) callerA [] s H := ⟨rfl, md, fun b o e => of_hidT e, Nat.le_of_eq (hidT_size _ _), trivial, fun b hb => absurd (show b ∈ ([] : List Addr) from hb) (by simp), hok, .of_eq nogen⟩
  have aT : a ≠ tb := fun q => by
    rw [q, eTb] at eA
    have := congrArg Obj.data (Option.some.inj eA)
    cases this
  have seq : SqL K H a (ns.map V.int) := by
    cases k : K.lookup a with
    | none => exact .inl (.inr ⟨_, by show H₀ K tb a us ns a = _; unfold H₀; rw [if_neg aT, if_pos ⟨rfl, k⟩]⟩)
    | some o =>
      have e := inK a o k
      rw [eA] at e
      cases e
      exact .inr ⟨_, us.toArray, _, k, rfl, rfl, rfl, by rw [List.size_toArray, hl]; exact hlen, by simpa using rel⟩
  refine codeAny_mono (F _ H inB TB e0 H₀_tb seq) fun r s' h => ?_
  cases r with
  | error e => exact (noX H e s' h).elim
  | ok fl =>
    cases fl with
    | ret u =>
      obtain ⟨v, H', os, bare, un, hok', rv, q⟩ := h
      cases (show v = .bl true from q)
      cases (show u = Value.bool true from rv)
      obtain ⟨more, grown⟩ := un.tbls tb #[] H₀_tb
      have grown' : s'.heap.get? tb = some { cls := .none, data := .fields (#[] ++ more) } := hok' tb _ grown
      have same : ∀ b o, b ≠ tb → s.heap.get? b = some o → s'.heap.get? b = some o := fun b o nb e => by
        cases z : H b with
        | none => exact un.keep b o e z (fun y => nomatch (show b ∈ ([] : List Addr) from y)) (by simp)
        | some u =>
          rcases H₀_at z with ⟨rfl, _⟩ | ⟨rfl, _, rfl⟩
          · exact absurd rfl nb
          · obtain ⟨y, _⟩ := (show ObjOk P w H' s'.heap b (.frz _ _) from hok' b _ (un.frzs b _ _ z))
            rw [eA] at e; cases e; exact y
      refine ⟨rfl, ⟨fun b o e => ?_, fun b o e => ?_⟩, os, bare⟩
      · by_cases hb : b = tb
        · subst hb
          cases (Option.some.inj (e.symm.trans eTb))
          exact .inr (.inl ⟨(hd.tab eTb).isCodeTable, rfl, #[], more, rfl, grown'⟩)
        · exact .inl (same b o hb e)
      · by_cases hb : b = tb
        · subst hb; exact ⟨_, grown'⟩
        · exact ⟨o, same b o hb e⟩
    | _ => exact (show False from h).elim
/-- the end as the head wants it -/
theorem walk_V {l : PySem.W.OpenLaw} {n : Nat} {q : Program} {loose : List Str} {XP : (Str → Option Value) → Heap → Prop} {YP : World → Heap → Prop} {d : DefRec} (hn : l.most = some n) (hn2 : n ≤ sizeLine) (hdf : d.params.defaults = [])
    (F : ∀ (w : World) (mg : Str → Option Value) (fa : Addr) (h : Heap), YP w h → h.Ns mainGlobals mg → mg d.name = some (.ref fa) → ∃ (K : PySem.W.Frag) (c tb : Addr), K.In h ∧ h.get? tb = some tabO ∧ K.lookup tb = none ∧ PySem.W.CodeHd h c tb ∧
      ∀ (base : Heap) (s : Shared) (H : Hp) (a : Addr) (ns : List Int), ns.length ≤ n → (∀ z ∈ ns, Builtin.Int.intBits z ≤ 1048576) → K.In base → LamX.TabB base mg c tb → Env0 l.prog w K mg base callerA [] s H → H tb = some (.tbl #[]) → SqL K H a (ns.map V.int) →
        codeAny (model l.prog w) callerA (.call (.ref fa) ⟨[.ref a], []⟩) (CR (L2.CX l.prog w) [] l.prog w H s (fun v _ => v = .bl true) fun _ _ _ => False) s) :
    PySem.W.WalkO q loose XP YP l.row.toRowW d [] (fun f vs => PySem.call f vs) := by
  refine Att.attach_callB hn hdf fun w s₀ s₁ mg mb fa o pm cd doc a vs ns G Y ho hdd hcd hmg hobj hints hlen hbits hg => ?_
  obtain ⟨K, c, tb, inK, eTb, nTb, hd, go⟩ := F w mg fa _ Y G.T.g hmg
  refine law_end (K := K) (c := c) inK G.T.g G.T.b G.T.builtins G.T.nolimit hg eTb nTb hd G.T.bmain hobj hints (Nat.le_trans hlen hn2) (fun base H inB TB e0 hT hS => go base s₁ H a ns hlen hbits inB TB e0 hT hS) fun H e s' z => ?_
  obtain ⟨_, _, _, _, _, _, _, _, _, _, _, _, z⟩ := z
  exact z.elim
end VL
end
-- V40
section
set_option Elab.async false
set_option linter.all false
set_option maxRecDepth 100000
set_option maxHeartbeats 4000000
/-! The law's own body. -/
namespace VL
open PySem PySem.Spec PyProof.Rows
open L2 hiding St
theorem Cal.mono {Y : Wo} {j k : Nat} {x : Str} {sp : Sp} (h : Cal Y j x sp) (hj : j ≤ k) : Cal Y k x sp := by
  obtain ⟨a, h1, h2, h3, h4⟩ := h
  exact ⟨a, h1, h2, fun X q1 q2 q3 q4 q5 r => h3 X q1 q2 q3 q4 q5 (r.mono hj), fun A fr s H us vs Q E r => h4 A fr s H us vs Q E (r.mono hj)⟩
/-- pen = _law_pen(script) -/
def isStart (N : List Str) (sc : Scope) : Stmt → Bool
  | .Assign [.Name x _] (.Call (.Name f _) [.Name a _] [] _) _ => decide (x = "pen") && (decide (f = "_law_pen") && (decide (a = "script") && (decide (N[0]? = some ("script" : Str)) && (decide (N[1]? = some ("pen" : Str)) && (visB sc "script" && (stoB sc sc "pen" && glB sc "_law_pen"))))))
  | _ => false
/-- the names at the law's own start: the pen is made -/
def lawE (n : Nat) : Env' := (List.replicate n none).set 1 (some (.val .pen))
/-- the law's wish -/
def lawK : KS := ⟨fun _ _ => False, fun r _ => r = .val (.bl true), fun _ _ => False, fun _ _ => False, fun _ _ _ => False⟩
/-- what the law's body computes, ends in True -/
def lawP (n : Nat) (ss : List S) : Prop := exs ss (lawE n) lawK (2 ^ 48)
/-- what stands fast for the law, once the pen is made -/
abbrev penΘ (Θ : Th) (p l : Addr) (cs : List (Str × Addr)) : Th := { Θ with pa := some p, pc := l, cm := fun _ => none, cells := some cs }
def spLaw (K : PySem.W.Frag) (tb : Addr) : Sp := fun vs H Q _ => ∃ (a : Addr) (ns : List Int), vs = [.ref a] ∧ SqL K H a (ns.map V.int) ∧ H tb = some (.tbl #[]) ∧ ∀ H', Q (.bl true) H'
theorem start_pen {Θ : Th} {p l a tb : Addr} {q : Str} {cs : List (Str × Addr)} {N : List Str} {ns : List Int} {fo : Int} {H H1 : Hp} (hN : 1 < N.length) (ht : Θ.tabs = [(tb, q)]) (hT : H tb = some (.tbl #[])) (np : H p = none) (nl : H l = none)
    (same : ∀ b, b ≠ p → b ≠ l → H1 b = H b) (e1 : H1 p = some (.dK (penL l 0 0 0 fo))) (e2 : H1 l = some (.lst (ns.map V.int))) (f1 : 0 ≤ fo) (f2 : fo < 2 ^ 32) :
    EnvOk (penΘ Θ p l cs) (fun _ => False) (2 ^ 48) H1 (fun _ => False) (2 ^ 48) H1 ((L2.start N [.ref a]).set 1 (some (.ref p))) (lawE N.length) := by
  have wd : Wd (penΘ Θ p l cs) (fun _ => False) (2 ^ 48) H1 := by
    refine ⟨fun _ h => h.elim, fun b e => ?_, fun t ht' => ?_, fun c d e => by cases e⟩
    · cases e
      exact ⟨⟨ns, 0, 0, 0, fo, e1, e2, by omega, by omega, by omega, by omega, f1, f2⟩, fun z => z⟩
    · rw [show (penΘ Θ p l cs).tabs = [(tb, q)] from ht] at ht'
      cases List.mem_singleton.mp ht'
      refine LamX.TabS.nil ?_
      rw [same tb (fun z => by rw [z, np] at hT; cases hT) (fun z => by rw [z, nl] at hT; cases hT)]
      exact hT
  have only : ∀ (i : Nat) (r : R), (lawE N.length)[i]? = some (some r) → i = 1 ∧ r = .val .pen := fun i r h => by
    unfold lawE at h
    by_cases hi : 1 = i
    · subst hi
      obtain ⟨q, _⟩ := set_at h
      exact ⟨rfl, Option.some.inj q⟩
    · rw [List.getElem?_set_ne hi, List.getElem?_replicate] at h
      split at h <;> cases h
  refine ⟨wd, wd, .refl, ?_, fun i r h => ?_, fun i j d d' b h1 _ _ _ => ?_⟩
  · unfold lawE L2.start
    simp
    omega
  · obtain ⟨rfl, rfl⟩ := only i r h
    refine ⟨.ref p, List.getElem?_set_self ?_, Rep.pen rfl⟩
    unfold L2.start
    simp
    omega
  · obtain ⟨_, z⟩ := only i _ h1
    cases z
theorem law_fn {Y : Wo} {Θ : Th} {k : Nat} {f c tb : Addr} {params : Arguments} {st : Stmt} {rest : List Stmt} {scope : Scope} {dV kV doc pm cdv ct oc : Value} {an od : Option Addr} {osl : Array (Option Value)} {N : List Str} {ss : List S} {p : Pr}
    (G : GG Y Θ) (eΘ : core Θ = Θ) (pf : p.flds = Θ.flds) (pi : p.ins = Θ.ins) (pg : p.gcd = true → Θ.gcdOn = true) (pm2 : p.mode = 2) (pl : ∀ n t, p.lam n = some t → Θ.lam n = some t)
    (lk : Y.K.lookup f = some ⟨oc, od, .func (PySem.W.fnOf "law" "law" params (st :: rest) scope dV kV doc pm an cdv ct), osl⟩) (hcd : PySem.W.codeIn Y.K cdv "law" = true) (ecd : cdv = .ref c) (S : FnScope N ["script"] scope)
    (TB : LamX.TabB Y.base Y.mg c tb) (ht : Θ.tabs = [(tb, (("law" : Str) ++ (".<locals>." : Str)) ++ ("<lambda>" : Str))]) (pen : Cal Y k "_law_pen" (spPen Y.K)) (h0 : isStart N scope st = true) (hc : chkSs p N scope ss rest = true) (cs : CallsSs Y (core Θ) k ss) (plain : lawP N.length ss) :
    FnG Y (k + 1) f (PySem.W.fnOf "law" "law" params (st :: rest) scope dV kV doc pm an cdv ct) ["script"] (spLaw Y.K tb) := by
  refine fnG_of lk hcd S (fun vs H Q E h => ?_) fun A fr s H vs Q E hr hg h => ?_
  · obtain ⟨a, ns, rfl, _⟩ := h; rfl
  obtain ⟨a, ns, rfl, hS, hT, q⟩ := h
  unfold isStart at h0
  split at h0
  case h_2 => cases h0
  rename_i x q1 y q2 z q3 q4 q5
  simp only [Bool.and_eq_true, decide_eq_true_eq] at h0
  obtain ⟨rfl, rfl, rfl, n0, n1, vis, sto, gl⟩ := h0
  let X := bodyX Y N "law" scope f cdv A fr s H E
  let W : WX := fun cls d _ H' => E cls d H'
  have xs : ∀ (pa pc : Addr), XS X Y (penΘ Θ pa pc X.env.cells) k N scope W := fun pa pc =>
    ⟨⟨rfl, rfl, rfl, rfl, rfl, G.hK, rfl, S.nd, rfl, rfl, hr, hg, takes_of rfl rfl rfl rfl, G.glb, G.free, G.gcd, G.ins, ⟨G.isi.at_, G.isi.of, G.isi.sp, G.isi.ty, G.isi.bt, G.isi.cc⟩⟩, passes_of rfl, fun _ => rfl, S.kind⟩
  obtain ⟨l1, l2⟩ := sto_loc (xs 0 0) sto
  have call := pe_cal (X := X) (W := W) (Θ := Θ) (x := "_law_pen") (p := q2) (pos := q4) ⟨rfl, rfl, rfl, rfl, rfl, hr, hg, takes_of rfl rfl rfl rfl⟩ pen (gl_of gl) (by decide) (pa_cons (pv_name (q := q3) (xs 0 0).g n0 vis (by decide)) pa_nil rfl) rfl
  have first : PS X (.Assign [.Name "pen" q1] (.Call (.Name "_law_pen" q2) [.Name "script" q3] [] q4) q5) _ := ps_set (pos := q5) (pos' := q1) S.nd n1 l1 call (sw_no rfl) l2
  refine ⟨_, pss_cons first (u := fun Dn σ H1 => ∃ pa pc e, tS (penΘ Θ pa pc X.env.cells) e W (exs ss) Dn σ H1) ⟨fun pins s1 σ1 H1 Dn I1 ⟨pa, pc, e, h1⟩ => ?_⟩, ?_⟩
  · have ec : core (penΘ Θ pa pc X.env.cells) = core Θ := rfl
    refine (sndSs p ss (Θ := penΘ Θ pa pc X.env.cells) (Y := Y) (k := k) (N := N) (sc := scope) (W := W) (e := e) ⟨pf, pi, pg, fun z => ?_, fun _ => ⟨_, rfl⟩, fun _ => ⟨⟨c, tb, TB, ecd, ?_, ?_, rfl⟩, fun _ _ => rfl⟩, fun _ => pl⟩ (xs pa pc) hc (by rw [ec]; exact cs)).run pins s1 σ1 H1 Dn I1 h1
    · rw [pm2] at z; cases z
    · show (tb, _) ∈ Θ.tabs
      rw [ht]; exact List.mem_singleton.mpr rfl
    · intro t hm _
      rw [show (penΘ Θ pa pc X.env.cells).tabs = Θ.tabs from rfl, ht] at hm
      cases List.mem_singleton.mp hm
      rfl
  · have hN : 1 < N.length := by
      rcases Nat.lt_or_ge 1 N.length with z | z
      · exact z
      · rw [List.getElem?_eq_none z] at n1; cases n1
    refine ⟨.ref a, ?_, a, ns, rfl, hS, fun pa pc fo H1 np nl hne same e1 e2 f1 f2 => ⟨pa, pc, ⟨fun _ => False, 2 ^ 48, H1⟩, fun _ => False, 2 ^ 48, lawE N.length, lawK, start_pen hN ht hT np nl same e1 e2 f1 f2, plain, ?_⟩⟩
    · unfold L2.start; rfl
    · exact ⟨fun _ _ h => h.elim, fun _ _ h => h.elim, fun _ _ h => h.elim, fun r b h v F' H' x rr => by cases h; cases rr; exact q H', fun _ _ _ h => h.elim⟩
end VL
end
-- V41
section
set_option Elab.async false
set_option linter.all false
set_option maxRecDepth 100000
set_option maxHeartbeats 4000000
/-! From the head's data to the defs' contracts. -/
namespace VL
open PySem PySem.Spec PyProof.Rows
open L2 hiding St
/-! ### the lambdas of a text, in their order -/
abbrev LamX3 := Arguments × Expr × Scope
mutual
def lamsE : Nat → Expr → List LamX3
  | 0, _ => []
  | n + 1, e => match e with
    | .Lambda a b s _ => [(a, b, s)]
    | .Tuple es _ _ => lamsEs n es
    | .List es _ => lamsEs n es
    | .Call f es _ _ => lamsE n f ++ lamsEs n es
    | .BinOp a _ b _ => lamsE n a ++ lamsE n b
    | .BoolOp _ es _ => lamsEs n es
    | .IfExp t a b _ => lamsE n t ++ lamsE n a ++ lamsE n b
    | .ListComp a _ _ _ => lamsE n a
    | _ => []
def lamsEs : Nat → List Expr → List LamX3
  | 0, _ => []
  | n + 1, es => match es with
    | [] => []
    | e :: r => lamsE n e ++ lamsEs n r
end
mutual
def lamsS : Nat → Stmt → List LamX3
  | 0, _ => []
  | n + 1, s => match s with
    | .Assign _ e _ => lamsE n e
    | .Expr e _ => lamsE n e
    | .Return (some e) _ => lamsE n e
    | .If t a b _ => lamsE n t ++ lamsSs n a ++ lamsSs n b
    | .For _ e b _ _ => lamsE n e ++ lamsSs n b
    | .While t b _ _ => lamsE n t ++ lamsSs n b
    | _ => []
def lamsSs : Nat → List Stmt → List LamX3
  | 0, _ => []
  | n + 1, ss => match ss with
    | [] => []
    | s :: r => lamsS n s ++ lamsSs n r
end
def lamOf (ss : List Stmt) (n : Nat) : Option LamX3 := (lamsSs 400 ss)[n]?
/-! ### a def's scope, by a look -/
def scB (N ps : List Str) (sc : Scope) : Bool := decide (sc.kind = .function) && (!sc.isCoroutine && (!sc.isGenerator && (decide N.Nodup && (decide (N.take ps.length = ps) && ((ps.all fun x => decide (sc.names.lookup x = some .local) || decide (sc.names.lookup x = some .cell)) && sc.names.all fun y => !decide (y.2 = .free))))))
theorem scB_ok {N ps : List Str} {sc : Scope} (h : scB N ps sc = true) : FnScope N ps sc := by
  unfold scB at h
  simp only [Bool.and_eq_true, Bool.or_eq_true, Bool.not_eq_true', decide_eq_true_eq, List.all_eq_true, decide_eq_false_iff_not] at h
  obtain ⟨h1, h2, h3, h4, h5, h6, h7⟩ := h
  exact ⟨h1, h2, h3, h4, h5, h6, h7⟩
/-! ### the head's word -/
structure Hd (Y : Wo) (Θ : Th) (p : Pr) (fns : List He.DefD) (gs : List Str) (es : List (Str × List Str)) : Prop where
  G : GG Y Θ
  pk : PrG p Θ
  eΘ : core Θ = Θ
  glb : ∀ x ∈ gs, Θ.glb x = some (He.ga Y.K x)
  def_ : ∀ d ∈ fns, d.dfl = [] → d.kwd = [] → ∃ fd, FunD Y.K d.name d.qual d.params d.body d.scope [] [] (He.fAd Y.K d.at_) fd
  le : LErr Y.K (He.ga Y.K "LoanError")
  leg : ("LoanError" : Str) ∈ gs
  er : ∀ c ∈ es, c.1 ∈ gs ∧ ErrC Y.K (He.ga Y.K c.1) c.2
  ea : ∀ c ∈ es, ∀ c' ∈ es, PySem.W.exmOne Y.K (.ref (He.ga Y.K c.1)) (.ref (He.ga Y.K c'.1)) = some (decide (c.1 = c'.1))
/-- how a def's places are bound -/
def BindB (d : He.DefD) (ps : List Str) : Prop := ∀ (kV doc pm : Value) (an : Option Addr) (cdv ct : Value) (us : List Value), us.length = ps.length → bindArgs (PySem.W.fnOf d.name d.qual d.params d.body d.scope .none kV doc pm an cdv ct) ⟨us, []⟩ = pure (ps.zip us)
section
variable {Y : Wo} {Θ : Th} {p : Pr} {fns : List He.DefD} {gs : List Str} {es : List (Str × List Str)} {k : Nat}
theorem Hd.fn (h : Hd Y Θ p fns gs es) {d : He.DefD} {x : Str} {N ps : List Str} {ss : List S} (hd : d ∈ fns) (h1 : d.dfl = [] ∧ d.kwd = [] ∧ d.at_ = (x, none)) (hx : x ∈ gs) (S : scB N ps d.scope = true) (hb : BindB d ps) (hc : chkSs p N d.scope ss d.body = true) (cs : CallsSs Y Θ k ss) :
    FnM Y Θ (k + 1) x (defM N.length ps.length ss) := by
  obtain ⟨fd, F⟩ := h.def_ d hd h1.1 h1.2.1
  have b := F.bindsN hb
  rw [h1.2.2] at F
  obtain ⟨⟨oc, od, dV, kV, doc, pm, an, cdv, ct, osl, rfl, lk, hcd, _, _⟩, kp⟩ := F
  exact fnM_of h.G h.pk lk hcd (scB_ok S) (h.G.glb _ _ (h.glb x hx)) kp b hc (by rw [h.eΘ]; exact cs)
theorem Hd.draw (h : Hd Y Θ p fns gs es) {d : He.DefD} {q : Nat → Pos} (hd : d ∈ fns) (h1 : d.dfl = [] ∧ d.kwd = [] ∧ d.at_ = (("_law_draw" : Str), none) ∧ d.name = "_law_draw" ∧ d.qual = "_law_draw") (hx : ("_law_draw" : Str) ∈ gs) (S : scB drawN ["pen", "many"] d.scope = true) (hb : BindB d ["pen", "many"]) (hq : d.body = drawAst q)
    (hv : (drawN.all fun x => decide (d.scope.names.lookup x = some .local)) = true) (hl : glB d.scope "len" = true) (hi : glB d.scope "int" = true) : FnM Y Θ (k + 1) "_law_draw" drawM := by
  obtain ⟨fd, F⟩ := h.def_ d hd h1.1 h1.2.1
  have b := F.bindsN hb
  rw [h1.2.2.1, h1.2.2.2.1, h1.2.2.2.2, hq] at F
  have gl : ∀ {y : Str}, glB d.scope y = true → d.scope.names.lookup y = some .globalImplicit := fun {y} z => by
    unfold glB at z
    split at z
    · assumption
    · cases z
  exact draw_fn h.G F (scB_ok S) (fun x hx => by simpa using List.all_eq_true.mp hv x hx) (gl hl) (gl hi) (h.G.glb _ _ (h.glb _ hx)) b
theorem Hd.pen (h : Hd Y Θ p fns gs es) {d : He.DefD} (hd : d ∈ fns) (h1 : d.dfl = [] ∧ d.kwd = [] ∧ d.at_ = (("_law_pen" : Str), none) ∧ d.name = "_law_pen" ∧ d.qual = "_law_pen") (hx : ("_law_pen" : Str) ∈ gs) (S : scB penN ["script"] d.scope = true) (hb : BindB d ["script"]) (hq : isPen d.body = true)
    (hv : (penN.all fun x => decide (d.scope.names.lookup x = some .local)) = true) (hl : glB d.scope "list" = true) (hi : glB d.scope "int" = true) : Cal Y (k + 1) "_law_pen" (spPen Y.K) := by
  obtain ⟨fd, F⟩ := h.def_ d hd h1.1 h1.2.1
  have b := F.bindsN hb
  rw [h1.2.2.1, h1.2.2.2.1, h1.2.2.2.2] at F
  have gl : ∀ {y : Str}, glB d.scope y = true → d.scope.names.lookup y = some .globalImplicit := fun {y} z => by
    unfold glB at z
    split at z
    · assumption
    · cases z
  exact pen_fn h.G F (scB_ok S) hq (fun x hx => by simpa using List.all_eq_true.mp hv x hx) (gl hl) (gl hi) (h.G.glb _ _ (h.glb _ hx)) b
/-- an error's class -/
theorem Hd.err (h : Hd Y Θ p fns gs es) {d : He.DefD} {c : Str} {fs : List Str} (hd : d ∈ fns) (h1 : d.dfl = [] ∧ d.kwd = [] ∧ d.at_ = (c, some ("__init__" : Str)) ∧ d.name = "__init__") (he : (c, fs) ∈ es) (S : scB ("self" :: fs) ("self" :: fs) d.scope = true) (hb : BindB d ("self" :: fs))
    (hv : ((("self" : Str) :: fs).all fun x => decide (d.scope.names.lookup x = some .local)) = true) (hp : ((("self" : Str) :: fs).all plainName) = true) (hg : glB d.scope "LoanError" = true) (hc : isInit fs d.body = true) (hf : fs ≠ [] ∧ fs.length ≤ 100) : MkOk Y Θ (k + 2) c (mkF fs) := by
  obtain ⟨fd, F⟩ := h.def_ d hd h1.1 h1.2.1
  have b := F.bindsN hb
  rw [h1.2.2.1, h1.2.2.2] at F
  obtain ⟨hgs, E⟩ := h.er _ he
  have gl : d.scope.names.lookup ("LoanError" : Str) = some .globalImplicit := by
    have z := hg
    unfold glB at z
    split at z
    · assumption
    · cases z
  intro X N sc W e fs0 a as p0 pos Θ'
  exact mk_of h.G hf.2 (h.glb c hgs) E.o E.i E.t (init_fn (k := k) F (scB_ok S) (fun x hx => by simpa using List.all_eq_true.mp hv x hx) (fun x hx => List.all_eq_true.mp hp x hx) gl (h.G.glb _ _ (h.glb _ h.leg)) h.le hc hf.1 hf.2 E.o E.f) b
theorem MkOk.mono {j k : Nat} {c : Str} {mk : List D → M (List (Str × D))} (h : MkOk Y Θ j c mk) (hj : j ≤ k) : MkOk Y Θ k c mk := fun {X N sc W e fs a as p pos Θ'} e1 G => h e1 ⟨G.hP, G.hw, G.hKY, G.hmg, G.hbase, G.hK, G.hN, G.nd, G.hs, G.calm, G.room.mono hj, G.grd, G.tk, G.glb, G.free, G.gcd, G.ins, G.isi⟩
/-- the def that tells errors -/
theorem Hd.fault (h : Hd Y Θ p fns gs es) {d : He.DefD} {x : Str} {tab : List Tell} {lt : LamT} (hd : d ∈ fns) (h1 : d.dfl = [] ∧ d.kwd = [] ∧ d.at_ = (x, none)) (hx : x ∈ gs) (S : scB faultN ["action"] d.scope = true) (hb : BindB d ["action"]) (hv : (faultN.all fun x => decide (d.scope.names.lookup x = some .local)) = true) (hc : isFault tab d.body = true)
    (ht : (tab.all fun t => !t.2.2.isEmpty && (glB d.scope t.1 && (plainName t.1 && es.any fun c => decide (c.1 = t.1) && t.2.2.all fun f => decide (f ∈ c.2)))) = true) (L : LamsOk Y Θ k lt) : FnM Y Θ (k + 2) x (faultM tab lt) := by
  obtain ⟨fd, F⟩ := h.def_ d hd h1.1 h1.2.1
  have b := F.bindsN hb
  rw [h1.2.2] at F
  obtain ⟨⟨oc, od, dV, kV, doc, pm, an, cdv, ct, osl, rfl, lk, hcd, _, _⟩, kp⟩ := F
  have hK := h.G.hK
  have look : ∀ t ∈ tab, t.2.2 ≠ [] ∧ glB d.scope t.1 = true ∧ plainName t.1 = true ∧ ∃ c ∈ es, c.1 = t.1 ∧ ∀ f ∈ t.2.2, f ∈ c.2 := fun t m => by
    have z := List.all_eq_true.mp ht t m
    simp only [Bool.and_eq_true, Bool.not_eq_true', List.any_eq_true, List.all_eq_true, decide_eq_true_eq] at z
    obtain ⟨z1, z2, z3, c, z4, z5, z6⟩ := z
    exact ⟨fun q => (by rw [q] at z1; cases z1), z2, z3, c, z4, z5, z6⟩
  refine fault_fn h.G lk hcd (scB_ok S) (fun x hx => by simpa using List.all_eq_true.mp hv x hx) (h.G.glb _ _ (h.glb x hx)) kp b hc ⟨fun t m => ?_, fun c hc c' hc' C C' e1 e2 => ?_⟩ L
  · obtain ⟨z1, z2, z3, c, z4, z5, z6⟩ := look t m
    obtain ⟨g, E⟩ := h.er c z4
    exact ⟨z1, _, by rw [← z5]; exact h.glb _ g, by rw [← hK]; exact E.x, fun f hf => by rw [← hK]; exact E.f f (z6 f hf), z2, z3⟩
  · obtain ⟨t, m, rfl⟩ := List.mem_map.mp hc
    obtain ⟨t', m', rfl⟩ := List.mem_map.mp hc'
    obtain ⟨_, _, _, c, z4, z5, _⟩ := look t m
    obtain ⟨_, _, _, c', y4, y5, _⟩ := look t' m'
    have g1 := h.glb _ (h.er c z4).1
    have g2 := h.glb _ (h.er c' y4).1
    rw [z5] at g1
    rw [y5] at g2
    rw [g1] at e1
    rw [g2] at e2
    cases e1
    cases e2
    have := h.ea c z4 c' y4
    rw [z5, y5] at this
    rw [← hK]
    exact this
end
/-! ### lambdas that are handed on -/
def lamNB (NL : List Str) (sc : Scope) : Bool := decide (sc.kind = .function) && (!sc.isCoroutine && (!sc.isGenerator && ((sc.names.all fun y => !decide (y.2 = .local) && !decide (y.2 = .cell)) && (decide NL.Nodup && NL.all fun y => decide ((y, NameKind.free) ∈ sc.names)))))
theorem lamNB_ok {NL : List Str} {sc : Scope} (h : lamNB NL sc = true) : LamN sc NL := by
  unfold lamNB at h
  simp only [Bool.and_eq_true, Bool.not_eq_true', decide_eq_true_eq, List.all_eq_true, decide_eq_false_iff_not] at h
  obtain ⟨h1, h2, h3, h4, h5, h6⟩ := h
  exact ⟨h1, h2, h3, h4, h5, h6⟩
/-- each lambda's term is its text -/
def lamB (p : Pr) : List (E × List Str) → List LamX3 → Bool
  | [], [] => true
  | (x, NL) :: r, (a, b, s) :: r' => noPar a && (lamNB NL s && (chk x p NL s b && lamB p r r'))
  | _, _ => false
def ltOf (l : List (E × List Str)) : LamT := fun n => l[n]?
theorem lams_ok {Y : Wo} {Θ : Th} {k : Nat} {p : Pr} {l : List (E × List Str)} {ts : List LamX3} (pk : PrG p Θ) (hl : ∀ n, Θ.lam n = ts[n]?) (h : lamB p l ts = true) (cc : ∀ x ∈ l, CallsOk Y (core Θ) k x.1) : LamsOk Y Θ k (ltOf l) := by
  have key : ∀ (l : List (E × List Str)) (ts : List LamX3), lamB p l ts = true → ∀ (n : Nat) (x : E) (NL : List Str), l[n]? = some (x, NL) → ∃ a b s, ts[n]? = some (a, b, s) ∧ noPar a = true ∧ lamNB NL s = true ∧ chk x p NL s b = true := by
    intro l
    induction l with
    | nil => intro ts h n x NL e; simp at e
    | cons y l ih =>
      intro ts h n x NL e
      obtain ⟨y1, y2⟩ := y
      cases ts with
      | nil => cases h
      | cons t ts =>
        obtain ⟨a, b, s⟩ := t
        have h' : (noPar a && (lamNB y2 s && (chk y1 p y2 s b && lamB p l ts))) = true := h
        simp only [Bool.and_eq_true] at h'
        cases n with
        | zero => simp at e; obtain ⟨rfl, rfl⟩ := e; exact ⟨a, b, s, rfl, h'.1, h'.2.1, h'.2.2.1⟩
        | succ n => simpa using ih ts h'.2.2.2 n x NL (by simpa using e)
  intro n x NL e
  obtain ⟨a, b, s, e1, e2, e3, e4⟩ := key l ts h n x NL e
  refine ⟨a, b, s, p, pk, by rw [hl]; exact e1, lamNB_ok e3, fun q cl pm cv ctv => ?_, e4, cc _ (List.mem_of_getElem? e)⟩
  rw [noPar_ok e2]
  rfl
end VL
end
-- V42
section
set_option Elab.async false
set_option linter.all false
set_option maxRecDepth 100000
set_option maxHeartbeats 4000000
/-! From the head's word to the law's call. -/
namespace VL
open PySem PySem.Spec PyProof.Rows
open L2 hiding St
abbrev lamq : Str := (("law" : Str) ++ (".<locals>." : Str)) ++ ("<lambda>" : Str)
/-- what stands fast -/
def thOf (K : PySem.W.Frag) (tb : Addr) (gs : List Str) (ins flds : List Str) (lam : Nat → Option LamX3) : Th where
  K := K
  glb := fun x => if x ∈ gs then some (He.ga K x) else none
  pa := none
  pc := 0
  tabs := [(tb, lamq)]
  cells := none
  cm := fun _ => none
  gcdOn := true
  ins := ins
  flds := flds
  lam := lam
def faOf (gs : List Str) : List He.Fa := gs.map He.Fa.glo ++ freeNames.map He.Fa.free
def exOf (es : List (Str × List Str)) (K : PySem.W.Frag) : Bool := exGcd K && (exBase K (He.ga K "LoanError") && ((es.all fun c => exErr K (He.ga K c.1) c.2) && exAll K (es.map (·.1))))
/-- what the classes of instances must have -/
structure InsOk (Y : Wo) (Θ : Th) : Prop where
  ins : ∀ c ∈ Θ.ins, ∀ C, Θ.glb c = some C → Cls Θ.K C ∧ ∀ f ∈ Θ.flds, NoAttr Θ.K C f
  isi : IsiG Θ
theorem insOk_nil {Y : Wo} {Θ : Th} (h : Θ.ins = []) : InsOk Y Θ := by
  refine ⟨?_, ?_, ?_, fun z => absurd h z, ?_, ?_, ?_⟩ <;> (intro c hc; rw [h] at hc; cases hc)
theorem hd_of {P : Program} {w : World} {K : PySem.W.Frag} {mg : Str → Option Value} {base h : Heap} {tb : Addr} {gs : List Str} {es : List (Str × List Str)} {fns : List He.DefD} {tf : List He.Defn} {ex : PySem.W.Frag → Bool} {ins flds : List Str} {lam : Nat → Option LamX3} {p : Pr}
    (inK : K.In h) (G : h.Ns mainGlobals mg) (c : SaysV (faOf gs) fns tf ex h K) (hex : ∀ K, ex K = true → exOf es K = true) (hes : (es.all fun c => decide (c.1 ∈ gs)) = true) (hle : ("LoanError" : Str) ∈ gs) (hp : p.flds = flds ∧ p.ins = ins ∧ p.mode = 0) (hi : InsOk ⟨P, w, K, mg, base⟩ (thOf K tb gs ins flds lam)) :
    Hd ⟨P, w, K, mg, base⟩ (thOf K tb gs ins flds lam) p fns gs es := by
  have e := hex K c.more
  unfold exOf at e
  simp only [Bool.and_eq_true, List.all_eq_true] at e
  obtain ⟨e1, e2, e3, e4⟩ := e
  have glo : ∀ x ∈ gs, mg x = some (.ref (He.ga K x)) := fun x hx => He.glo_ok inK G (c.d.facts (f := .glo x) (List.mem_append_left _ (List.mem_map.mpr ⟨x, hx, rfl⟩)))
  have gl : ∀ x ∈ gs, (thOf K tb gs ins flds lam).glb x = some (He.ga K x) := fun x hx => if_pos hx
  refine ⟨⟨rfl, fun x a h => ?_, fun x hx => He.free_ok inK G (c.d.facts (f := .free x) (List.mem_append_right _ (List.mem_map.mpr ⟨x, hx, rfl⟩))), fun _ => PySem.W.mg_of inK G (He.eqO_ok e1), hi.ins, hi.isi⟩, ⟨hp.1, hp.2.1, fun _ => rfl, hp.2.2⟩, rfl, gl, fun d hd h1 h2 => ?_, exBase_ok e2, hle, fun t ht => ⟨by simpa using List.all_eq_true.mp hes t ht, exErr_ok (e3 t ht)⟩,
    fun t ht t' ht' => exAll_ok e4 t.1 (List.mem_map.mpr ⟨t, ht, rfl⟩) t'.1 (List.mem_map.mpr ⟨t', ht', rfl⟩)⟩
  · by_cases z : x ∈ gs
    · rw [gl x z] at h; cases h; exact glo x z
    · have : (thOf K tb gs ins flds lam).glb x = none := if_neg z
      rw [this] at h; cases h
  · obtain ⟨fd, F⟩ := c.d.defs hd
    have q1 : d.dvs K = [] := by unfold He.DefD.dvs; rw [h1]; rfl
    have q2 : d.kws K = [] := by unfold He.DefD.kws; rw [h2]; rfl
    rw [q1, q2] at F
    exact ⟨fd, F⟩
/-- the law's call -/
theorem call_law {Y : Wo} {tb : Addr} {gs ins flds : List Str} {lam : Nat → Option LamX3} {p0 p : Pr} {fns : List He.DefD} {es : List (Str × List Str)} {d : He.DefD} {N : List Str} {ss : List S} {st : Stmt} {rest : List Stmt} {k : Nat} {Θ : Th} (eΘ : Θ = thOf Y.K tb gs ins flds lam)
    (h : Hd Y Θ p0 fns gs es) (hd : d ∈ fns) (h1 : d.dfl = [] ∧ d.kwd = [] ∧ d.at_ = (("law" : Str), none) ∧ d.name = "law" ∧ d.qual = "law") (hx : ("law" : Str) ∈ gs) (S : scB N ["script"] d.scope = true) (hb : BindB d ["script"]) (hbody : d.body = st :: rest)
    (hp : p.flds = flds ∧ p.ins = ins ∧ p.mode = 2 ∧ p.lam = lam) (h0 : isStart N d.scope st = true) (hc : chkSs p N d.scope ss rest = true) (pen : Cal Y k "_law_pen" (spPen Y.K)) (cs : CallsSs Y Θ k ss) (plain : lawP N.length ss)
    (TB : LamX.TabB Y.base Y.mg (He.codeOf Y.K (("law" : Str), none)) tb) {fa a : Addr} {ns : List Int} {s : Shared} {H : Hp} (hm : Y.mg "law" = some (.ref fa)) (hr : Room (k + 1) callerA) (e0 : Env0 Y.P Y.w Y.K Y.mg Y.base callerA [] s H) (hT : H tb = some (.tbl #[])) (hS : SqL Y.K H a (ns.map V.int)) :
    codeAny (model Y.P Y.w) callerA (.call (.ref fa) ⟨[.ref a], []⟩) (CR (L2.CX Y.P Y.w) [] Y.P Y.w H s (fun v _ => v = .bl true) fun _ _ _ => False) s := by
  subst eΘ
  obtain ⟨fd, F⟩ := h.def_ d hd h1.1 h1.2.1
  have b := F.bindsA (ps := ["script"]) hb s [.ref a] rfl
  have e := hm.symm.trans (h.G.glb _ _ (h.glb _ hx))
  have e : fa = He.ga Y.K "law" := by cases e; rfl
  subst e
  rw [h1.2.2.1, h1.2.2.2.1, h1.2.2.2.2, hbody] at F
  obtain ⟨⟨oc, od, dV, kV, doc, pm, an, cdv, ct, osl, rfl, lk, hcd, _, _⟩, kp⟩ := F
  obtain ⟨c, ec⟩ := He.codeIn_ref hcd
  have ecode : He.codeOf Y.K (("law" : Str), none) = c := He.codeOf_eq lk ec
  rw [ecode] at TB
  have FG := law_fn (p := p) (tb := tb) (c := c) (ss := ss) (N := N) (k := k) h.G h.eΘ hp.1 hp.2.1 (fun _ => rfl) hp.2.2.1 (fun n t z => by rw [hp.2.2.2] at z; exact z) lk hcd ec (scB_ok S) TB rfl pen h0 hc (by rw [h.eΘ]; exact cs) plain
  exact FG.go callerA [] s H ⟨[.ref a], []⟩ [.ref a] [.ref a] _ _ hr rfl e0 b (.cons rfl .nil) ⟨a, ns, rfl, hS, hT, fun _ => rfl⟩
/-- all of it -/
theorem walk_law {l : PySem.W.OpenLaw} {n k : Nat} {q : Program} {loose : List Str} {XP : (Str → Option Value) → Heap → Prop} {rd : DefRec} {m : Nat} {gs : List Str} {es : List (Str × List Str)} {fns : List He.DefD} {ex : PySem.W.Frag → Bool} {ins flds : List Str} {p0 p : Pr} {d : He.DefD} {N : List Str} {ss : List S} {st : Stmt} {rest : List Stmt}
    (hn : l.most = some n) (hn2 : n ≤ sizeLine) (hdf : rd.params.defaults = []) (hnm : rd.name = "law") (hr : Room (k + 1) callerA) (hex : ∀ K, ex K = true → exOf es K = true) (hes : (es.all fun c => decide (c.1 ∈ gs)) = true) (hle : ("LoanError" : Str) ∈ gs) (hp0 : p0.flds = flds ∧ p0.ins = ins ∧ p0.mode = 0)
    (hi : ∀ (P : Program) (w : World) (K : PySem.W.Frag) (mg : Str → Option Value) (base : Heap) (tb : Addr), ex K = true → InsOk ⟨P, w, K, mg, base⟩ (thOf K tb gs ins flds p.lam))
    (hd : d ∈ fns) (h1 : d.dfl = [] ∧ d.kwd = [] ∧ d.at_ = (("law" : Str), none) ∧ d.name = "law" ∧ d.qual = "law") (hx : ("law" : Str) ∈ gs) (S : scB N ["script"] d.scope = true) (hb : BindB d ["script"]) (hbody : d.body = st :: rest)
    (hp : p.flds = flds ∧ p.ins = ins ∧ p.mode = 2) (h0 : isStart N d.scope st = true) (hc : chkSs p N d.scope ss rest = true)
    (fns_ok : ∀ (Y : Wo) (Θ : Th), Hd Y Θ p0 fns gs es → Θ.lam = p.lam → Cal Y k "_law_pen" (spPen Y.K) ∧ CallsSs Y Θ k ss) (plain : lawP N.length ss) :
    PySem.W.WalkO q loose XP (hookV m (faOf gs) fns [(("law" : Str), none)] ex).says l.row.toRowW rd [] (fun f vs => PySem.call f vs) := by
  refine walk_V hn hn2 hdf fun w mg fa h Y G hmg0 => ?_
  obtain ⟨K, inK, c⟩ := Y
  have hm : mg "law" = some (.ref fa) := by rw [← hnm]; exact hmg0
  have m1 : (("law" : Str), (none : Option Str)) ∈ [(("law" : Str), (none : Option Str))] := List.mem_singleton.mpr rfl
  refine ⟨K, (He.cT K (("law" : Str), none)).1, (He.cT K (("law" : Str), none)).2, inK, c.empty _ m1, c.out _ m1, PySem.W.codeHd_of_K inK (c.hd _ m1), fun base s H a ns _ _ inB TB e0 hT hS => ?_⟩
  let Y : Wo := ⟨l.prog, w, K, mg, base⟩
  have HD : Hd Y (thOf K (He.cT K (("law" : Str), none)).2 gs ins flds p.lam) p0 fns gs es := hd_of inK G c hex hes hle hp0 (hi _ _ _ _ _ _ c.more)
  obtain ⟨pen, cs⟩ := fns_ok Y _ HD rfl
  exact call_law (Y := Y) (p := p) rfl HD hd h1 hx S hb hbody ⟨hp.1, hp.2.1, hp.2.2, rfl⟩ h0 hc pen cs plain TB hm hr e0 hT hS
end VL
end
-- V50
section
set_option Elab.async false
set_option linter.all false
set_option maxRecDepth 100000
set_option maxHeartbeats 4000000
/-! Plain reading of terms: what they hand back. -/
namespace VL
open PySem PySem.Spec PyProof.Rows
open L2 hiding St
/-- m may be taken to hand a back, and takes no draw -/
def Ret {α : Type} (m : M α) (a : α) : Prop := ∀ P E b, P a b → m P E b
/-- m throws z -/
def Thr {α : Type} (m : M α) (z : XD) : Prop := ∀ P E b, E z b → m P E b
section
variable {α β : Type} {m : M α} {k : α → M β} {a : α} {c : β} {z : XD}
theorem Ret.pure (a : α) : Ret (ret a) a := fun _ _ _ h => h
theorem Ret.bnd (h : Ret m a) (g : Ret (k a) c) : Ret (bnd m k) c := fun P E b p => h _ _ _ (g _ _ _ p)
theorem Ret.need {q : Prop} (hq : q) (h : Ret m a) : Ret (need q m) a := fun P E b p => ⟨hq, h _ _ _ p⟩
theorem Ret.opt {o : Option α} (h : o = some a) : Ret (optM o) a := fun P E b p => by rw [h]; exact p
theorem Ret.quiet (h : Ret m a) : Ret (quiet m) a := fun P E b p => h _ _ _ p
theorem Thr.bnd1 (h : Thr m z) : Thr (bnd m k) z := fun P E b p => h _ _ _ p
theorem Thr.bnd2 (h : Ret m a) (g : Thr (k a) z) : Thr (bnd m k) z := fun P E b p => h _ _ _ (g _ _ _ p)
end
section
variable {ρ : Env'} {r x y : R} {xs : List E} {rs : List R} {ds : List D} {d : D} {i j : Int} {z : XD}
/-! ### names, constants -/
theorem rt_lit (d : D) : Ret (ev (.lit d) ρ) (.val d) := Ret.pure _
theorem rt_glo (x : Str) (d : D) : Ret (ev (.glo x d) ρ) (.val d) := Ret.pure _
theorem rt_var {i : Nat} (h : ρ[i]? = some (some r)) : Ret (ev (.var i) ρ) r := fun P E b p => by
  show getV ρ i P E b
  unfold getV
  rw [h]; exact p
theorem rt_lam (n : Nat) : Ret (ev (.lam n) ρ) (.val (.clo n [])) := Ret.pure _
/-! ### forms -/
theorem rt_bin {op : Operator} {a c : E} (h1 : Ret (ev a ρ) x) (h2 : Ret (ev c ρ) y) (h3 : Ret (binD op x y) r) : Ret (ev (.bin op a c) ρ) r := h1.bnd (h2.bnd h3)
theorem rt_cmp {op : CmpOp} {a c : E} (h1 : Ret (ev a ρ) x) (h2 : Ret (ev c ρ) y) (h3 : Ret (cmpD op x y) r) : Ret (ev (.cmp op a c) ρ) r := h1.bnd (h2.bnd h3)
theorem rt_neg {a : E} (h1 : Ret (ev a ρ) (.val (.int i))) : Ret (ev (.neg a) ρ) (.val (.int (-i))) := h1.bnd (Ret.pure _)
theorem rt_not {a : E} {t : Bool} (h1 : Ret (ev a ρ) (.val (.bl t))) : Ret (ev (.not a) ρ) (.val (.bl (!t))) := h1.bnd ((Ret.pure t).bnd (Ret.pure _))
theorem rt_iteT {t a c : E} (h1 : Ret (ev t ρ) (.val (.bl true))) (h2 : Ret (ev a ρ) r) : Ret (ev (.ite t a c) ρ) r := h1.bnd ((Ret.pure true).bnd h2)
theorem rt_iteF {t a c : E} (h1 : Ret (ev t ρ) (.val (.bl false))) (h2 : Ret (ev c ρ) r) : Ret (ev (.ite t a c) ρ) r := h1.bnd ((Ret.pure false).bnd h2)
theorem rt_ite {t a c : E} {q : Bool} {r' : R} (h1 : Ret (ev t ρ) (.val (.bl q))) (h2 : q = true → Ret (ev a ρ) r) (h3 : q = false → Ret (ev c ρ) r') : Ret (ev (.ite t a c) ρ) (if q = true then r else r') := by
  cases q with
  | true => exact rt_iteT h1 (h2 rfl)
  | false => exact rt_iteF h1 (h3 rfl)
theorem rt_idx {a c : E} (h1 : Ret (ev a ρ) x) (h2 : Ret (ev c ρ) y) (h3 : Ret (idxD x y) r) : Ret (ev (.idx a c) ρ) r := h1.bnd (h2.bnd h3)
theorem rt_key {a : E} {k : Str} (h1 : Ret (ev a ρ) x) (h3 : Ret (keyD k x) r) : Ret (ev (.key a k) ρ) r := h1.bnd h3
theorem rt_slc {a : E} {lo hi : Option E} {l h : Option Int} (h1 : Ret (ev a ρ) x) (h2 : Ret (evo lo ρ) l) (h3 : Ret (evo hi ρ) h) (h4 : Ret (slcD x l h) r) : Ret (ev (.slc a lo hi) ρ) r := h1.bnd (h2.bnd (h3.bnd h4))
theorem rt_fld {a : E} {f : Str} (h1 : Ret (ev a ρ) x) (h3 : Ret (fldD x f) r) : Ret (ev (.fld a f) ρ) r := h1.bnd h3
theorem rt_bi1 {f : Bi} {a : E} (h1 : Ret (ev a ρ) x) (h3 : Ret (biD f x none) r) : Ret (ev (.bi f a none) ρ) r := h1.bnd h3
theorem rt_bi2 {f : Bi} {a c : E} (h1 : Ret (ev a ρ) x) (h2 : Ret (ev c ρ) y) (h3 : Ret (biD f x (some y)) r) : Ret (ev (.bi f a (some c)) ρ) r := h1.bnd (h2.bnd h3)
theorem rt_isi {a : E} {ts : List TyN} (h1 : Ret (ev a ρ) x) (h3 : x.d.known = true) : Ret (ev (.isi a ts) ρ) (.val (.bl (ts.any (isiB x.d)))) := h1.bnd (Ret.need h3 (Ret.pure _))
theorem rt_tup (h1 : Ret (evs xs ρ) rs) (h2 : Ret (keptAll rs) ds) (h3 : ds.length ≤ sizeLine) : Ret (ev (.tup xs) ρ) (.val (.tup ds)) := h1.bnd (h2.bnd (Ret.need h3 (Ret.pure _)))
theorem rt_lst (h1 : Ret (evs xs ρ) rs) (h2 : Ret (keptAll rs) ds) (h3 : ds.length ≤ sizeLine) : Ret (ev (.lst xs) ρ) (.frs (.lst ds)) := h1.bnd (h2.bnd (Ret.need h3 (Ret.pure _)))
theorem rt_dct {ks : List Str} (h1 : Ret (evs xs ρ) rs) (h2 : Ret (keptAll rs) ds) (h3 : ks.length = ds.length) : Ret (ev (.dct ks xs) ρ) (.frs (.dct (ks.zip ds))) := h1.bnd (h2.bnd (Ret.need h3 (Ret.pure _)))
theorem rt_call {f : Str} {m : List D → M R} (h1 : Ret (evs xs ρ) rs) (h2 : Ret (keptAll rs) ds) (h3 : Ret (m ds) r) : Ret (ev (.call f m xs) ρ) r := h1.bnd (h2.bnd h3)
theorem rt_nil : Ret (evs [] ρ) [] := Ret.pure _
theorem rt_cons {e : E} (h1 : Ret (ev e ρ) r) (h2 : Ret (evs xs ρ) rs) : Ret (evs (e :: xs) ρ) (r :: rs) := h1.bnd (h2.bnd (Ret.pure _))
theorem rk_nil : Ret (keptAll []) [] := Ret.pure _
theorem rk_val (h : Ret (keptAll rs) ds) : Ret (keptAll (.val d :: rs)) (d :: ds) := (Ret.pure d).bnd (h.bnd (Ret.pure _))
theorem rk_frs (h : Ret (keptAll rs) ds) : Ret (keptAll (.frs d :: rs)) (d :: ds) := (Ret.pure d).bnd (h.bnd (Ret.pure _))
theorem ro_none : Ret (evo none ρ) none := Ret.pure _
theorem ro_some {e : E} (h : Ret (ev e ρ) (.val (.int i))) : Ret (evo (some e) ρ) (some i) := h.bnd (Ret.pure _)
theorem rt_andT {e f : E} (h1 : Ret (ev e ρ) (.val (.bl true))) (h2 : Ret (evA (f :: xs) ρ) r) : Ret (evA (e :: f :: xs) ρ) r := h1.bnd ((Ret.pure true).bnd h2)
theorem rt_andF {e f : E} (h1 : Ret (ev e ρ) (.val (.bl false))) : Ret (evA (e :: f :: xs) ρ) (.val (.bl false)) := h1.bnd ((Ret.pure false).bnd (Ret.pure _))
theorem rt_and1 {e : E} (h1 : Ret (ev e ρ) r) : Ret (evA [e] ρ) r := h1
theorem rt_and {t : Bool} {e f : E} {u : Bool} (h1 : Ret (ev e ρ) (.val (.bl t))) (h2 : t = true → Ret (evA (f :: xs) ρ) (.val (.bl u))) : Ret (evA (e :: f :: xs) ρ) (.val (.bl (t && u))) := by
  cases t with
  | true => exact rt_andT h1 (h2 rfl)
  | false => exact rt_andF h1
theorem rt_orT {e f : E} (h1 : Ret (ev e ρ) (.val (.bl true))) : Ret (evO (e :: f :: xs) ρ) (.val (.bl true)) := h1.bnd ((Ret.pure true).bnd (Ret.pure _))
theorem rt_orF {e f : E} (h1 : Ret (ev e ρ) (.val (.bl false))) (h2 : Ret (evO (f :: xs) ρ) r) : Ret (evO (e :: f :: xs) ρ) r := h1.bnd ((Ret.pure false).bnd h2)
theorem rt_or {t : Bool} {e f : E} {u : Bool} (h1 : Ret (ev e ρ) (.val (.bl t))) (h2 : t = false → Ret (evO (f :: xs) ρ) (.val (.bl u))) : Ret (evO (e :: f :: xs) ρ) (.val (.bl (t || u))) := by
  cases t with
  | true => exact rt_orT h1
  | false => exact rt_orF h1 (h2 rfl)
theorem rt_or1 {e : E} (h1 : Ret (ev e ρ) r) : Ret (evO [e] ρ) r := h1
theorem rt_ands (h : Ret (evA xs ρ) r) : Ret (ev (.and xs) ρ) r := h
theorem rt_ors (h : Ret (evO xs ρ) r) : Ret (ev (.or xs) ρ) r := h
theorem rt_ifs_none : Ret (evt none ρ) true := Ret.pure _
theorem rt_ifs {e : E} {t : Bool} (h : Ret (ev e ρ) (.val (.bl t))) : Ret (evt (some e) ρ) t := h.bnd (Ret.pure _)
theorem rt_callC {f : Str} {m : List D → M R} {caps : List (Str × Nat)} {ns : List Nat} {cap : List (Str × D)} (h1 : Ret (evs xs ρ) rs) (h2 : Ret (keptAll rs) ds) (h0 : capOf ρ caps = some cap) (h4 : D.allCs (fun n => n ∈ ns) ds) (h3 : Ret (m (D.fills cap ds)) r) (h5 : r.d.noClo = true) : Ret (ev (.callC f m xs caps ns) ρ) r :=
  h1.bnd (h2.bnd fun P E b p => by
    show handC ns m caps ρ ds P E b
    unfold handC
    rw [h0]
    exact ⟨h4, h3 _ _ _ ⟨h5, p⟩⟩)
/-- .. without closures -/
theorem rt_callN {f : Str} {m : List D → M R} (h1 : Ret (evs xs ρ) rs) (h2 : Ret (keptAll rs) ds) (h4 : D.noClos ds = true) (h3 : Ret (m ds) r) (h5 : r.d.noClo = true) : Ret (ev (.callC f m xs [] []) ρ) r := by
  have q := fills_no (cap := []) (p := fun n => n ∈ ([] : List Nat)) h4
  exact rt_callC h1 h2 rfl q.2 (by rw [q.1]; exact h3) h5
/-! ### operators -/
theorem rb_add : Ret (binD .Add (.val (.int i)) (.val (.int j))) (.val (.int (i + j))) := Ret.pure _
theorem rb_sub : Ret (binD .Sub (.val (.int i)) (.val (.int j))) (.val (.int (i - j))) := Ret.pure _
theorem rb_mul (h : CMulX i j) : Ret (binD .Mult (.val (.int i)) (.val (.int j))) (.val (.int (i * j))) := Ret.need h (Ret.pure _)
theorem rb_div (h : j ≠ 0 ∧ j.natAbs.log2 < 9000) : Ret (binD .FloorDiv (.val (.int i)) (.val (.int j))) (.val (.int (i.fdiv j))) := Ret.need h (Ret.pure _)
theorem rb_mod (h : j ≠ 0) : Ret (binD .Mod (.val (.int i)) (.val (.int j))) (.val (.int (i.fmod j))) := Ret.need h (Ret.pure _)
theorem rc_lt : Ret (cmpD .Lt (.val (.int i)) (.val (.int j))) (.val (.bl (decide (i < j)))) := Ret.pure _
theorem rc_le : Ret (cmpD .LtE (.val (.int i)) (.val (.int j))) (.val (.bl (decide (i ≤ j)))) := Ret.pure _
theorem rc_gt : Ret (cmpD .Gt (.val (.int i)) (.val (.int j))) (.val (.bl (decide (j < i)))) := Ret.pure _
theorem rc_ge : Ret (cmpD .GtE (.val (.int i)) (.val (.int j))) (.val (.bl (decide (j ≤ i)))) := Ret.pure _
theorem eqv_int : PyData.eqv (.int i) (.int j) = decide (i = j) := by
  unfold PyData.eqv
  first | rfl | simp
theorem rc_eq : Ret (cmpD .Eq (.val (.int i)) (.val (.int j))) (.val (.bl (decide (i = j)))) := fun P E b p => ⟨rfl, rfl, by
  show P _ b
  rw [eqv_int]; exact p⟩
theorem rc_ne : Ret (cmpD .NotEq (.val (.int i)) (.val (.int j))) (.val (.bl (!decide (i = j)))) := fun P E b p => ⟨rfl, rfl, by
  show P _ b
  rw [eqv_int]; exact p⟩
/-- == of any data -/
theorem rc_eqD {p q : PyData} (h0 : strs2 x.d y.d = none) (h1 : x.d.py = some p) (h2 : y.d.py = some q) (s1 : SeqAt.shaped p = true) (s2 : SeqAt.shaped q = true) : Ret (cmpD .Eq x y) (.val (.bl (PyData.eqv p q))) := fun P E b k => by
  unfold cmpD okPy
  dsimp only
  rw [h0]
  dsimp only
  rw [h1]
  refine ⟨s1, ?_⟩
  rw [h2]
  exact ⟨s2, k⟩
theorem rc_neD {p q : PyData} (h0 : strs2 x.d y.d = none) (h1 : x.d.py = some p) (h2 : y.d.py = some q) (s1 : SeqAt.shaped p = true) (s2 : SeqAt.shaped q = true) : Ret (cmpD .NotEq x y) (.val (.bl (!PyData.eqv p q))) := fun P E b k => by
  unfold cmpD okPy
  dsimp only
  rw [h0]
  dsimp only
  rw [h1]
  refine ⟨s1, ?_⟩
  rw [h2]
  exact ⟨s2, k⟩
theorem rc_eqS {s u : Str} : Ret (cmpD .Eq (.val (.str s)) (.val (.str u))) (.val (.bl (decide (s = u)))) := Ret.pure _
theorem rc_neS {s u : Str} : Ret (cmpD .NotEq (.val (.str s)) (.val (.str u))) (.val (.bl (!decide (s = u)))) := Ret.pure _
theorem ri_idx {xs : List D} {k : Int} (h1 : x.d.items = some xs) (h : atI xs k = some d) : Ret (idxD x (.val (.int k))) (.val d) := fun P E b p => by
  unfold idxD
  rw [h1]
  show (match atI xs k with
    | some d => VL.ret (R.val d)
    | none => fail) P E b
  rw [h]; exact p
theorem ri_tup {xs : List D} {k : Int} (h : atI xs k = some d) : Ret (idxD (.val (.tup xs)) (.val (.int k))) (.val d) := ri_idx rfl h
theorem rb_len {xs : List D} (h1 : x.d.items = some xs) : Ret (biD .len x none) (.val (.int xs.length)) := fun P E b p => by
  unfold biD
  rw [h1]; exact p
theorem rb_gcd : Ret (biD .gcd (.val (.int i)) (some (.val (.int j)))) (.val (.int ((Nat.gcd i.natAbs j.natAbs : Nat) : Int))) := Ret.pure _
theorem rb_abs : Ret (biD .abs (.val (.int i)) none) (.val (.int (if i < 0 then -i else i))) := Ret.pure _
theorem rb_int : Ret (biD .int (.val (.int i)) none) (.val (.int i)) := Ret.pure _
theorem rb_bits : Ret (biD .bits (.val (.int i)) none) (.val (.int (Builtin.Int.intBits i : Nat))) := Ret.pure _
theorem rb_repr {p : PyData} (h1 : x.d.pyr = some p) (h2 : p.showable = true ∧ p.shown.length ≤ sizeLine ∧ p.depth ≤ 64 ∧ (p.hasDict = false ∨ x.d.noLst = true)) : Ret (biD .repr x none) (.val (.str p.shown)) := fun P E b q => by
  unfold biD
  rw [h1]; exact ⟨h2, q⟩
theorem rb_all {bs : List Bool} {xs : List D} (h1 : x.d = .lst xs) (h2 : boolsOf xs = some bs) : Ret (biD .all x none) (.val (.bl (bs.all id))) := fun P E b q => by
  unfold biD
  rw [h1]
  show (match boolsOf xs with
    | some bs => VL.ret (R.val (.bl (bs.all id)))
    | none => (fail : M R)) P E b
  rw [h2]; exact q
theorem rb_any {bs : List Bool} {xs : List D} (h1 : x.d = .lst xs) (h2 : boolsOf xs = some bs) : Ret (biD .any x none) (.val (.bl (bs.any id))) := fun P E b q => by
  unfold biD
  rw [h1]
  show (match boolsOf xs with
    | some bs => VL.ret (R.val (.bl (bs.any id)))
    | none => (fail : M R)) P E b
  rw [h2]; exact q
end
/-! ### statements -/
section
variable {ρ ρ' : Env'} {K : KS} {b : Nat} {ss : List S} {r s : R} {i : Nat} {x : E}
theorem wp_nil (h : K.nx ρ b) : exs [] ρ K b := h
theorem wp_set (h1 : Ret (ev x ρ) r) (h2 : r.slot = some s) (h3 : exs ss (ρ.set i (some s)) K b) : exs (.set i x :: ss) ρ K b := h1 _ _ _ (by show slotK i ρ _ r b; unfold slotK; rw [h2]; exact h3)
theorem wp_par {is : List Nat} {xs : List E} {rs : List R} (h1 : Ret (evs xs ρ) rs) (h2 : setR ρ is rs = some ρ') (h3 : exs ss ρ' K b) : exs (.par is xs :: ss) ρ K b := h1 _ _ _ (by rw [h2]; exact h3)
theorem wp_ret (h1 : Ret (ev x ρ) r) (h2 : ∀ d, r ≠ .own d) (h3 : K.rt r b) : exs (.ret x :: ss) ρ K b := h1 _ _ _ (by
  show retK _ r b
  cases r with
  | own d => exact absurd rfl (h2 d)
  | val d => exact h3
  | frs d => exact h3)
theorem wp_iteT {t : E} {p q : List S} (h1 : Ret (ev t ρ) (.val (.bl true))) (h2 : exs p ρ { K with nx := fun ρ' b' => exs ss ρ' K b' } b) : exs (.ite t p q :: ss) ρ K b := h1 _ _ _ h2
theorem wp_iteF {t : E} {p q : List S} (h1 : Ret (ev t ρ) (.val (.bl false))) (h2 : exs q ρ { K with nx := fun ρ' b' => exs ss ρ' K b' } b) : exs (.ite t p q :: ss) ρ K b := h1 _ _ _ h2
theorem wp_ite {t : E} {p q : List S} {c : Bool} (h1 : Ret (ev t ρ) (.val (.bl c))) (hT : c = true → exs p ρ { K with nx := fun ρ' b' => exs ss ρ' K b' } b) (hF : c = false → exs q ρ { K with nx := fun ρ' b' => exs ss ρ' K b' } b) : exs (.ite t p q :: ss) ρ K b := by
  cases c with
  | true => exact wp_iteT h1 (hT rfl)
  | false => exact wp_iteF h1 (hF rfl)
/-- a function that hands back -/
theorem defM_ret {n np : Nat} {ss : List S} {ds : List D} (hl : ds.length = np) (h : ∀ (K : KS) b, K.rt r b → exs ss (startE n ds) K b) : Ret (defM n np ss ds) r := fun P E b p => ⟨hl, h _ _ p⟩
theorem defM_thr {n np : Nat} {ss : List S} {ds : List D} {z : XD} (hl : ds.length = np) (h : ∀ (K : KS) b, (∀ ρ, K.ex z ρ b) → exs ss (startE n ds) K b) : Thr (defM n np ss ds) z := fun P E b p => ⟨hl, h _ _ fun _ => p⟩
theorem wp_raise {c : Str} {mk : List D → M (List (Str × D))} {xs : List E} {rs : List R} {ds : List D} {fs : List (Str × D)} (h1 : Ret (evs xs ρ) rs) (h2 : Ret (keptAll rs) ds) (h3 : Ret (mk ds) fs) (h4 : K.ex ⟨c, fs⟩ ρ b) : exs (.raise c mk xs :: ss) ρ K b := h1 _ _ _ (h2 _ _ _ (h3 _ _ _ h4))
theorem wp_thr_ret {z : XD} (h1 : Thr (ev x ρ) z) (h : K.ex z ρ b) : exs (.ret x :: ss) ρ K b := h1 _ _ _ h
theorem wp_thr_par {z : XD} {is : List Nat} {xs : List E} (h1 : Thr (evs xs ρ) z) (h : K.ex z ρ b) : exs (.par is xs :: ss) ρ K b := h1 _ _ _ h
theorem rt_mkF {fs : List Str} {ds : List D} (h : ds.length = fs.length) : Ret (mkF fs ds) (fs.zip ds).reverse := Ret.need h (Ret.pure _)
theorem wp_frz {d : D} (h : ρ[i]? = some (some (.own d))) (h2 : exs ss (ρ.set i (some (.val d))) K b) : exs (.frz i :: ss) ρ K b := by
  show frzM i ρ _ b
  unfold frzM
  rw [h]; exact h2
theorem wp_frz' (h : ∀ d, ρ[i]? ≠ some (some (.own d))) (h2 : exs ss ρ K b) : exs (.frz i :: ss) ρ K b := by
  show frzM i ρ _ b
  unfold frzM
  split
  · rename_i d e; exact absurd e (h d)
  · exact h2
theorem wp_app {xs : List D} {d : D} (h : ρ[i]? = some (some (.own (.lst xs)))) (h1 : Ret (ev x ρ) r) (h2 : Ret r.kept d) (h3 : xs.length < sizeLine) (h4 : exs ss (ρ.set i (some (.own (.lst (xs ++ [d]))))) K b) : exs (.app i x :: ss) ρ K b := by
  show appM i (ev x) ρ _ b
  unfold appM
  rw [h]
  exact h1 _ _ _ (h2 _ _ _ ⟨h3, h4⟩)
theorem wp_retv {d : D} (h : ρ[i]? = some (some (.val d))) (h1 : K.rt (.val d) b) : exs (.retv i :: ss) ρ K b := by
  show retvM i ρ _ b
  unfold retvM
  rw [h]; exact h1
theorem wp_retvO {d : D} (h : ρ[i]? = some (some (.own d))) (h1 : K.rt (.frs d) b) : exs (.retv i :: ss) ρ K b := by
  show retvM i ρ _ b
  unfold retvM
  rw [h]; exact h1
end
/-! ### draws: at most k of them, what comes satisfies q -/
def Gets {α : Type} (m : M α) (k : Nat) (q : α → Prop) : Prop := ∀ P E b, k ≤ b → (∀ a b', q a → b ≤ b' + k → P a b') → m P E b
section
variable {α β : Type} {m : M α} {f : α → M β} {k l : Nat} {q : α → Prop} {q' : β → Prop} {a : α}
theorem Ret.gets (h : Ret m a) (hq : q a) : Gets m k q := fun P E b _ p => h _ _ _ (p a b hq (Nat.le_add_right _ _))
theorem Gets.bnd (h : Gets m k q) (g : ∀ a, q a → Gets (f a) l q') : Gets (bnd m f) (k + l) q' := fun P E b hb p => h _ _ _ (by omega) fun a b' ha hb' => g a ha _ _ _ (by omega) fun c b2 hc hb2 => p c b2 hc (by omega)
theorem Gets.mono {q2 : α → Prop} {k2 : Nat} (h : Gets m k q) (hk : k ≤ k2) (hq : ∀ a, q a → q2 a) : Gets m k2 q2 := fun P E b hb p => h _ _ _ (by omega) fun a b' ha hb' => p a b' (hq a ha) (by omega)
theorem Gets.need {c : Prop} (hc : c) (h : Gets m k q) : Gets (need c m) k q := fun P E b hb p => ⟨hc, h _ _ _ hb p⟩
theorem Gets.quiet (h : Gets m k q) : Gets (quiet m) k q := fun P E b hb p => h _ _ _ hb p
theorem draw_gets {many : Int} (h1 : 0 < many) (h2 : many < 2 ^ 64) : Gets (drawM [.pen, .int many]) 1 fun r => ∃ i : Int, r = .val (.int i) ∧ 0 ≤ i ∧ i < many := fun P E b hb p => ⟨hb, h1, h2, fun r r1 r2 => p _ _ ⟨r, rfl, r1, r2⟩ (by omega)⟩
theorem defM_gets {n np : Nat} {ss : List S} {ds : List D} {q : R → Prop} (hl : ds.length = np) (h : ∀ (K : KS) b, k ≤ b → (∀ r b', q r → b ≤ b' + k → K.rt r b') → exs ss (startE n ds) K b) : Gets (defM n np ss ds) k q := fun P E b hb p => ⟨hl, h _ _ hb p⟩
end
end VL
end
-- V51
section
set_option Elab.async false
set_option linter.all false
set_option maxRecDepth 100000
set_option maxHeartbeats 4000000
/-! Terms of defs that many laws hold. -/
namespace LB
open PySem PySem.Spec PyProof.Rows VL
open L2 hiding St
abbrev mk_BadNumber : List D → M (List (Str × D)) := mkF ["what", "number"]
abbrev mk_BadText : List D → M (List (Str × D)) := mkF ["line", "column"]
abbrev mk_BadRow : List D → M (List (Str × D)) := mkF ["row"]
abbrev mk_Unlike : List D → M (List (Str × D)) := mkF ["what"]
abbrev mk_TooMany : List D → M (List (Str × D)) := mkF ["what", "many", "limit"]
def N_is_whole : List Str := ["value"]
def b_is_whole : List S := [.ret (.and [.isi (.var 0) [.ty "int"], .not (.isi (.var 0) [.ty "bool"])])]
abbrev m_is_whole : List D → M R := defM 1 1 b_is_whole
def N_is_pair : List Str := ["value"]
def b_is_pair : List S := [.ite (.or [.not (.isi (.var 0) [.ty "tuple", .ty "list"]), .cmp .NotEq (.bi .len (.var 0) none) (.lit (.int 2))]) [.ret (.lit (.bl false))] [], .ret (.and [.call "is_whole" m_is_whole [.idx (.var 0) (.lit (.int 0))], .call "is_whole" m_is_whole [.idx (.var 0) (.lit (.int 1))], .cmp .Gt (.idx (.var 0) (.lit (.int 1))) (.lit (.int 0))])]
abbrev m_is_pair : List D → M R := defM 1 1 b_is_pair
def N_is_ratio : List Str := ["value"]
def b_is_ratio : List S := [.ret (.or [.call "is_whole" m_is_whole [.var 0], .and [.isi (.var 0) [.ty "tuple"], .call "is_pair" m_is_pair [.var 0]]])]
abbrev m_is_ratio : List D → M R := defM 1 1 b_is_ratio
def N_lowest : List Str := ["top", "bottom", "by"]
def b_lowest : List S := [.set 2 (.ite (.cmp .Gt (.var 1) (.lit (.int 0))) (.bi .gcd (.var 0) (some (.var 1))) (.neg (.bi .gcd (.var 0) (some (.var 1))))), .ret (.tup [.bin .FloorDiv (.var 0) (.var 2), .bin .FloorDiv (.var 1) (.var 2)])]
abbrev m_lowest : List D → M R := defM 3 2 b_lowest
def N_told : List Str := ["ratio"]
def b_told : List S := [.ite (.call "is_whole" m_is_whole [.var 0]) [.ret (.tup [.var 0, .lit (.int 1)])] [], .ite (.not (.call "is_pair" m_is_pair [.var 0])) [.raise "BadRow" mk_BadRow [.var 0]] [], .ret (.call "lowest" m_lowest [.idx (.var 0) (.lit (.int 0)), .idx (.var 0) (.lit (.int 1))])]
abbrev m_told : List D → M R := defM 1 1 b_told
def N_summed : List Str := ["one", "other"]
def b_summed : List S := [.ret (.call "lowest" m_lowest [.bin .Add (.bin .Mult (.idx (.var 0) (.lit (.int 0))) (.idx (.var 1) (.lit (.int 1)))) (.bin .Mult (.idx (.var 1) (.lit (.int 0))) (.idx (.var 0) (.lit (.int 1)))), .bin .Mult (.idx (.var 0) (.lit (.int 1))) (.idx (.var 1) (.lit (.int 1)))])]
abbrev m_summed : List D → M R := defM 2 2 b_summed
def N_lessened : List Str := ["one", "other"]
def b_lessened : List S := [.ret (.call "lowest" m_lowest [.bin .Sub (.bin .Mult (.idx (.var 0) (.lit (.int 0))) (.idx (.var 1) (.lit (.int 1)))) (.bin .Mult (.idx (.var 1) (.lit (.int 0))) (.idx (.var 0) (.lit (.int 1)))), .bin .Mult (.idx (.var 0) (.lit (.int 1))) (.idx (.var 1) (.lit (.int 1)))])]
abbrev m_lessened : List D → M R := defM 2 2 b_lessened
def N_scaled : List Str := ["one", "other"]
def b_scaled : List S := [.ret (.call "lowest" m_lowest [.bin .Mult (.idx (.var 0) (.lit (.int 0))) (.idx (.var 1) (.lit (.int 0))), .bin .Mult (.idx (.var 0) (.lit (.int 1))) (.idx (.var 1) (.lit (.int 1)))])]
abbrev m_scaled : List D → M R := defM 2 2 b_scaled
def N_parted : List Str := ["one", "other"]
def b_parted : List S := [.ret (.call "lowest" m_lowest [.bin .Mult (.idx (.var 0) (.lit (.int 0))) (.idx (.var 1) (.lit (.int 1))), .bin .Mult (.idx (.var 0) (.lit (.int 1))) (.idx (.var 1) (.lit (.int 0)))])]
abbrev m_parted : List D → M R := defM 2 2 b_parted
def N_below : List Str := ["one", "other"]
def b_below : List S := [.ret (.cmp .Lt (.bin .Mult (.idx (.var 0) (.lit (.int 0))) (.idx (.var 1) (.lit (.int 1)))) (.bin .Mult (.idx (.var 1) (.lit (.int 0))) (.idx (.var 0) (.lit (.int 1)))))]
abbrev m_below : List D → M R := defM 2 2 b_below
def N_plus : List Str := ["one", "other", "first", "second"]
def b_plus : List S := [.par [2, 3] [.call "told" m_told [.var 0], .call "told" m_told [.var 1]], .ret (.call "summed" m_summed [.var 2, .var 3])]
abbrev m_plus : List D → M R := defM 4 2 b_plus
def N_minus : List Str := ["one", "other", "first", "second"]
def b_minus : List S := [.par [2, 3] [.call "told" m_told [.var 0], .call "told" m_told [.var 1]], .ret (.call "lessened" m_lessened [.var 2, .var 3])]
abbrev m_minus : List D → M R := defM 4 2 b_minus
def N_times : List Str := ["one", "other", "first", "second"]
def b_times : List S := [.par [2, 3] [.call "told" m_told [.var 0], .call "told" m_told [.var 1]], .ret (.call "scaled" m_scaled [.var 2, .var 3])]
abbrev m_times : List D → M R := defM 4 2 b_times
def N_share : List Str := ["one", "other", "first", "second"]
def b_share : List S := [.par [2, 3] [.call "told" m_told [.var 0], .call "told" m_told [.var 1]], .ite (.cmp .Eq (.idx (.var 3) (.lit (.int 0))) (.lit (.int 0))) [.raise "BadNumber" mk_BadNumber [.lit (.str "share"), .lit (.int 0)]] [], .ret (.call "parted" m_parted [.var 2, .var 3])]
abbrev m_share : List D → M R := defM 4 2 b_share
def N_less : List Str := ["one", "other", "first", "second"]
def b_less : List S := [.par [2, 3] [.call "told" m_told [.var 0], .call "told" m_told [.var 1]], .ret (.call "below" m_below [.var 2, .var 3])]
abbrev m_less : List D → M R := defM 4 2 b_less
abbrev m_law_draw : List D → M R := drawM
def N_law_pick : List Str := ["pen", "some"]
def b_law_pick : List S := [.ret (.idx (.var 1) (.call "_law_draw" m_law_draw [.var 0, .bi .len (.var 1) none]))]
abbrev m_law_pick : List D → M R := defM 2 2 b_law_pick
def N_law_gcd : List Str := ["one", "two", "lap"]
def b_law_gcd : List S := [.par [0, 1] [.bi .abs (.var 0) none, .bi .abs (.var 1) none], .forS (.var 2) .rng [.bin .Add (.lit (.int 4)) (.bin .Mult (.lit (.int 2)) (.bi .bits (.bi .int (.var 1) none) none))] [.ite (.cmp .Eq (.var 1) (.lit (.int 0))) [.brk] [], .par [0, 1] [.var 1, .bin .Mod (.bi .int (.var 0) none) (.var 1)]], .retv 0]
abbrev m_law_gcd : List D → M R := defM 3 2 b_law_gcd
def N_law_q : List Str := ["top", "bottom", "by"]
def b_law_q : List S := [.set 2 (.call "_law_gcd" m_law_gcd [.var 0, .var 1]), .set 2 (.ite (.cmp .Lt (.var 1) (.lit (.int 0))) (.neg (.var 2)) (.var 2)), .ret (.tup [.bin .FloorDiv (.var 0) (.var 2), .bin .FloorDiv (.var 1) (.var 2)])]
abbrev m_law_q : List D → M R := defM 3 2 b_law_q
def N_law_plus : List Str := ["one", "two"]
def b_law_plus : List S := [.ret (.call "_law_q" m_law_q [.bin .Add (.bin .Mult (.idx (.var 0) (.lit (.int 0))) (.idx (.var 1) (.lit (.int 1)))) (.bin .Mult (.idx (.var 1) (.lit (.int 0))) (.idx (.var 0) (.lit (.int 1)))), .bin .Mult (.idx (.var 0) (.lit (.int 1))) (.idx (.var 1) (.lit (.int 1)))])]
abbrev m_law_plus : List D → M R := defM 2 2 b_law_plus
def N_law_times : List Str := ["one", "two"]
def b_law_times : List S := [.ret (.call "_law_q" m_law_q [.bin .Mult (.idx (.var 0) (.lit (.int 0))) (.idx (.var 1) (.lit (.int 0))), .bin .Mult (.idx (.var 0) (.lit (.int 1))) (.idx (.var 1) (.lit (.int 1)))])]
abbrev m_law_times : List D → M R := defM 2 2 b_law_times
def N_law_less : List Str := ["one", "two"]
def b_law_less : List S := [.ret (.cmp .Lt (.bin .Mult (.idx (.var 0) (.lit (.int 0))) (.idx (.var 1) (.lit (.int 1)))) (.bin .Mult (.idx (.var 1) (.lit (.int 0))) (.idx (.var 0) (.lit (.int 1)))))]
abbrev m_law_less : List D → M R := defM 2 2 b_law_less
def N_law_minus : List Str := ["one", "two"]
def b_law_minus : List S := [.ret (.call "_law_q" m_law_q [.bin .Sub (.bin .Mult (.idx (.var 0) (.lit (.int 0))) (.idx (.var 1) (.lit (.int 1)))) (.bin .Mult (.idx (.var 1) (.lit (.int 0))) (.idx (.var 0) (.lit (.int 1)))), .bin .Mult (.idx (.var 0) (.lit (.int 1))) (.idx (.var 1) (.lit (.int 1)))])]
abbrev m_law_minus : List D → M R := defM 2 2 b_law_minus
def N_law_share : List Str := ["one", "two"]
def b_law_share : List S := [.ret (.call "_law_q" m_law_q [.bin .Mult (.idx (.var 0) (.lit (.int 0))) (.idx (.var 1) (.lit (.int 1))), .bin .Mult (.idx (.var 0) (.lit (.int 1))) (.idx (.var 1) (.lit (.int 0)))])]
abbrev m_law_share : List D → M R := defM 2 2 b_law_share
def N_law_drawn : List Str := ["pen", "most", "top"]
def b_law_drawn : List S := [.set 2 (.bin .Sub (.call "_law_draw" m_law_draw [.var 0, .bin .Add (.bin .Mult (.lit (.int 2)) (.var 1)) (.lit (.int 1))]) (.var 1)), .ret (.call "_law_q" m_law_q [.var 2, .call "_law_pick" m_law_pick [.var 0, .lst [.lit (.int 1), .lit (.int 1), .lit (.int 1), .lit (.int 2), .lit (.int 3)]]])]
abbrev m_law_drawn : List D → M R := defM 3 2 b_law_drawn
def N_law_handed : List Str := ["pen", "ratio", "by"]
def b_law_handed : List S := [.ite (.and [.cmp .Eq (.idx (.var 1) (.lit (.int 1))) (.lit (.int 1)), .cmp .Eq (.call "_law_draw" m_law_draw [.var 0, .lit (.int 2)]) (.lit (.int 0))]) [.ret (.idx (.var 1) (.lit (.int 0)))] [], .set 2 (.call "_law_pick" m_law_pick [.var 0, .lst [.lit (.int 1), .lit (.int 1), .lit (.int 2), .lit (.int 5)]]), .ret (.call "_law_pick" m_law_pick [.var 0, .lst [.tup [.bin .Mult (.idx (.var 1) (.lit (.int 0))) (.var 2), .bin .Mult (.idx (.var 1) (.lit (.int 1))) (.var 2)], .lst [.bin .Mult (.idx (.var 1) (.lit (.int 0))) (.var 2), .bin .Mult (.idx (.var 1) (.lit (.int 1))) (.var 2)]]])]
abbrev m_law_handed : List D → M R := defM 3 2 b_law_handed
end LB
end
-- V52
section
set_option Elab.async false
set_option linter.all false
set_option maxRecDepth 100000
set_option maxHeartbeats 4000000
/-! Ratios: what the defs hand back. -/
namespace LB
open PySem PySem.Spec PyProof.Rows VL
open L2 hiding St
local macro_rules | `(tactic| walk_at "rt") => `(tactic| repeat' (first
  | exact rt_lit _ | exact rt_var rfl | exact rt_nil | exact rk_nil | exact rb_add | exact rb_sub | exact rc_lt | exact rc_le | exact rc_gt | exact rc_ge | exact rc_eq | exact rc_ne | exact rb_gcd | exact rb_abs | exact rb_int | exact rb_bits
  | refine rb_mul ?_ | exact ri_tup rfl | exact ri_idx rfl rfl | refine rk_val ?_ | refine rk_frs ?_ | refine rt_cons ?_ ?_ | refine rt_bin ?_ ?_ ?_ | refine rt_cmp ?_ ?_ ?_ | refine rt_neg ?_ | refine rt_not ?_ | refine rt_idx ?_ ?_ ?_ | refine rt_bi1 ?_ ?_ | refine rt_bi2 ?_ ?_ ?_
  | refine rt_tup ?_ ?_ (by decide) | refine rt_lst ?_ ?_ (by decide) | refine rt_call ?_ ?_ ?_))
/-! ### plain arithmetic -/
def gz (x y : Int) : Int := ((Nat.gcd x.natAbs y.natAbs : Nat) : Int)
/-- a pair in lowest terms -/
def lowQ (x y : Int) : Int × Int := if 0 < y then (x.fdiv (gz x y), y.fdiv (gz x y)) else (x.fdiv (-gz x y), y.fdiv (-gz x y))
def qD (q : Int × Int) : D := .tup [.int q.1, .int q.2]
/-- in lowest terms -/
structure Lo (q : Int × Int) : Prop where
  pos : 0 < q.2
  cop : Nat.gcd q.1.natAbs q.2.natAbs = 1
theorem gz_pos {x y : Int} (hy : y ≠ 0) : 0 < gz x y := by
  unfold gz
  have : 0 < Nat.gcd x.natAbs y.natAbs := Nat.gcd_pos_of_pos_right _ (by omega)
  omega
theorem gz_dvd1 (x y : Int) : ∃ a, x = a * gz x y := by
  obtain ⟨k, hk⟩ := Nat.gcd_dvd_left x.natAbs y.natAbs
  refine ⟨if 0 ≤ x then (k : Int) else -(k : Int), ?_⟩
  unfold gz
  have : (x.natAbs : Int) = (Nat.gcd x.natAbs y.natAbs : Int) * (k : Int) := by exact_mod_cast hk
  split
  · rw [Int.mul_comm]; omega
  · rw [Int.neg_mul, Int.mul_comm]; omega
theorem gz_dvd2 (x y : Int) : ∃ a, y = a * gz x y := by
  obtain ⟨k, hk⟩ := Nat.gcd_dvd_right x.natAbs y.natAbs
  refine ⟨if 0 ≤ y then (k : Int) else -(k : Int), ?_⟩
  unfold gz
  have : (y.natAbs : Int) = (Nat.gcd x.natAbs y.natAbs : Int) * (k : Int) := by exact_mod_cast hk
  split
  · rw [Int.mul_comm]; omega
  · rw [Int.neg_mul, Int.mul_comm]; omega
theorem fdiv_mul {a g : Int} (hg : 0 < g) : (a * g).fdiv g = a := Int.mul_fdiv_cancel _ (by omega)
theorem fdiv_mul_neg {a g : Int} (hg : 0 < g) : (a * g).fdiv (-g) = -a := by
  have : a * g = (-a) * (-g) := by rw [Int.neg_mul_neg]
  rw [this]
  exact Int.mul_fdiv_cancel _ (by omega)
/-- what lowest terms are -/
theorem lowQ_spec {x y : Int} (hy : y ≠ 0) : Lo (lowQ x y) ∧ (lowQ x y).1 * y = x * (lowQ x y).2 := by
  have hg := gz_pos (x := x) hy
  obtain ⟨a, ha⟩ := gz_dvd1 x y
  obtain ⟨c, hc⟩ := gz_dvd2 x y
  have cop : Nat.gcd a.natAbs c.natAbs = 1 := by
    have e1 : x.natAbs = a.natAbs * (gz x y).natAbs := by rw [← Int.natAbs_mul, ← ha]
    have e2 : y.natAbs = c.natAbs * (gz x y).natAbs := by rw [← Int.natAbs_mul, ← hc]
    have e3 : (gz x y).natAbs = Nat.gcd x.natAbs y.natAbs := by unfold gz; exact Int.natAbs_natCast _
    have e4 : Nat.gcd x.natAbs y.natAbs = Nat.gcd a.natAbs c.natAbs * (gz x y).natAbs := by
      conv => lhs; rw [e1, e2]
      exact Nat.gcd_mul_right _ _ _
    rw [e3] at e4
    have : 0 < Nat.gcd x.natAbs y.natAbs := Nat.gcd_pos_of_pos_right _ (by omega)
    have e5 : Nat.gcd a.natAbs c.natAbs * Nat.gcd x.natAbs y.natAbs = 1 * Nat.gcd x.natAbs y.natAbs := by rw [← e4, Nat.one_mul]
    exact Nat.eq_of_mul_eq_mul_right this e5
  generalize hG : gz x y = g at *
  by_cases h : 0 < y
  · have e : lowQ x y = (a, c) := by
      unfold lowQ
      rw [if_pos h, hG, ha, hc, fdiv_mul hg, fdiv_mul hg]
    rw [e]
    refine ⟨⟨?_, cop⟩, ?_⟩
    · by_cases z : 0 < c
      · exact z
      · exfalso
        have : c * g ≤ 0 := Int.mul_nonpos_of_nonpos_of_nonneg (by omega) (by omega)
        omega
    · show a * y = x * c
      rw [ha, hc, Int.mul_assoc, Int.mul_comm c g]
  · have e : lowQ x y = (-a, -c) := by
      unfold lowQ
      rw [if_neg h, hG, ha, hc, fdiv_mul_neg hg, fdiv_mul_neg hg]
    rw [e]
    refine ⟨⟨?_, by simpa using cop⟩, ?_⟩
    · show 0 < -c
      by_cases z : 0 < -c
      · exact z
      · exfalso
        have : 0 ≤ c * g := Int.mul_nonneg (by omega) (by omega)
        omega
    · show -a * y = x * -c
      rw [Int.neg_mul, Int.mul_neg, ha, hc, Int.mul_assoc, Int.mul_comm c g]
theorem Lo.eq {p q : Int × Int} (hp : Lo p) (hq : Lo q) (h : p.1 * q.2 = q.1 * p.2) : p = q := by
  obtain ⟨a, b⟩ := p
  obtain ⟨c, d⟩ := q
  have h : a * d = c * b := h
  have hb : 0 < b := hp.pos
  have hd : 0 < d := hq.pos
  have n : a.natAbs * d.natAbs = c.natAbs * b.natAbs := by rw [← Int.natAbs_mul, ← Int.natAbs_mul, h]
  have c1 : Nat.Coprime b.natAbs a.natAbs := by
    unfold Nat.Coprime; rw [Nat.gcd_comm]; exact hp.cop
  have c2 : Nat.Coprime d.natAbs c.natAbs := by
    unfold Nat.Coprime; rw [Nat.gcd_comm]; exact hq.cop
  have d1 : b.natAbs ∣ d.natAbs := c1.dvd_of_dvd_mul_left ⟨c.natAbs, by rw [n, Nat.mul_comm]⟩
  have d2 : d.natAbs ∣ b.natAbs := c2.dvd_of_dvd_mul_left ⟨a.natAbs, by rw [← n, Nat.mul_comm]⟩
  have e := Nat.dvd_antisymm d1 d2
  have e2 : b = d := by omega
  subst e2
  have : a = c := Int.eq_of_mul_eq_mul_right (by omega) h
  rw [this]
theorem lowQ_of {x y : Int} {q : Int × Int} (hy : y ≠ 0) (hq : Lo q) (h : q.1 * y = x * q.2) : lowQ x y = q := by
  obtain ⟨l, e⟩ := lowQ_spec (x := x) hy
  refine l.eq hq ?_
  have : (lowQ x y).1 * q.2 * y = q.1 * (lowQ x y).2 * y := by
    calc (lowQ x y).1 * q.2 * y = (lowQ x y).1 * y * q.2 := by rw [Int.mul_assoc, Int.mul_comm q.2 y, ← Int.mul_assoc]
      _ = x * (lowQ x y).2 * q.2 := by rw [e]
      _ = x * q.2 * (lowQ x y).2 := by rw [Int.mul_assoc, Int.mul_comm (lowQ x y).2, ← Int.mul_assoc]
      _ = q.1 * y * (lowQ x y).2 := by rw [h]
      _ = q.1 * (lowQ x y).2 * y := by rw [Int.mul_assoc, Int.mul_comm y, ← Int.mul_assoc]
  exact Int.eq_of_mul_eq_mul_right hy this
theorem lowQ_scale {q : Int × Int} {k : Int} (hq : Lo q) (hk : 0 < k) : lowQ (q.1 * k) (q.2 * k) = q :=
  lowQ_of (fun z => by
    have := Int.mul_pos hq.pos hk
    omega) hq (by rw [Int.mul_comm q.2 k, Int.mul_assoc])
/-! ### sizes -/
def Sz (n : Nat) (x : Int) : Prop := x.natAbs < 2 ^ n
theorem Sz.mono {n m : Nat} {x : Int} (h : Sz n x) (hm : n ≤ m) : Sz m x := Nat.lt_of_lt_of_le h (Nat.pow_le_pow_right (by omega) hm)
theorem Sz.mul {n m : Nat} {x y : Int} (h : Sz n x) (g : Sz m y) : Sz (n + m) (x * y) := by
  unfold Sz at *
  rw [Int.natAbs_mul, Nat.pow_add]
  exact Nat.mul_lt_mul'' h g
theorem Sz.add {n : Nat} {x y : Int} (h : Sz n x) (g : Sz n y) : Sz (n + 1) (x + y) := by
  unfold Sz at *
  have := Int.natAbs_add_le x y
  rw [Nat.pow_succ]; omega
theorem Sz.sub {n : Nat} {x y : Int} (h : Sz n x) (g : Sz n y) : Sz (n + 1) (x - y) := by
  unfold Sz at *
  have := Int.natAbs_sub_le x y
  rw [Nat.pow_succ]; omega
theorem Sz.cmul {n m : Nat} {x y : Int} (h : Sz n x) (g : Sz m y) (hnm : n + m ≤ 134217728) : CMulX x y := mulX_small h g hnm
theorem Sz.log {n : Nat} {x : Int} (h : Sz n x) (hn : n ≤ 9000) (hx : x ≠ 0) : x ≠ 0 ∧ x.natAbs.log2 < 9000 := ⟨hx, Nat.lt_of_lt_of_le ((Nat.log2_lt (by omega)).2 h) hn⟩
theorem Sz.gz {n : Nat} {x y : Int} (h : Sz n y) (hy : y ≠ 0) : Sz n (gz x y) := by
  unfold Sz LB.gz at *
  rw [Int.natAbs_natCast]
  exact Nat.lt_of_le_of_lt (Nat.le_of_dvd (by omega) (Nat.gcd_dvd_right _ _)) h
theorem Sz.fdiv_gz {n : Nat} {x a g : Int} (h : Sz n x) (hg : 0 < g) (e : x = a * g) : Sz n a := by
  unfold Sz at *
  rw [e, Int.natAbs_mul] at h
  exact Nat.lt_of_le_of_lt (Nat.le_mul_of_pos_right _ (by omega)) h
theorem lowQ_sz {n m : Nat} {x y : Int} (hx : Sz n x) (h : Sz m y) (hy : y ≠ 0) : Sz n (lowQ x y).1 ∧ Sz m (lowQ x y).2 := by
  have hg := gz_pos (x := x) hy
  obtain ⟨a, ha⟩ := gz_dvd1 x y
  obtain ⟨c, hc⟩ := gz_dvd2 x y
  have s1 := hx.fdiv_gz hg ha
  have s2 := h.fdiv_gz hg hc
  have e1 : x.fdiv (LB.gz x y) = a := by conv => lhs; lhs; rw [ha]
                                         exact fdiv_mul hg
  have e2 : y.fdiv (LB.gz x y) = c := by conv => lhs; lhs; rw [hc]
                                         exact fdiv_mul hg
  have e3 : x.fdiv (-LB.gz x y) = -a := by conv => lhs; lhs; rw [ha]
                                           exact fdiv_mul_neg hg
  have e4 : y.fdiv (-LB.gz x y) = -c := by conv => lhs; lhs; rw [hc]
                                           exact fdiv_mul_neg hg
  unfold lowQ
  split
  · rw [e1, e2]; exact ⟨s1, s2⟩
  · rw [e3, e4]
    unfold Sz at *
    simpa using ⟨s1, s2⟩
end LB
end
-- V53
section
set_option Elab.async false
set_option linter.all false
set_option maxRecDepth 100000
set_option maxHeartbeats 4000000
/-! Ratios: the program's defs and the laws' own. -/
namespace LB
open PySem PySem.Spec PyProof.Rows VL
open L2 hiding St
local macro_rules | `(tactic| walk_at "rt") => `(tactic| repeat' (first
  | exact rt_lit _ | exact rt_var rfl | exact rt_nil | exact rk_nil | exact rb_add | exact rb_sub | exact rc_lt | exact rc_le | exact rc_gt | exact rc_ge | exact rc_eq | exact rc_ne | exact rb_gcd | exact rb_abs | exact rb_int | exact rb_bits
  | refine rb_mul ?_ | exact ri_tup rfl | exact ri_idx rfl rfl | refine rk_val ?_ | refine rk_frs ?_ | refine rt_cons ?_ ?_ | refine rt_bin ?_ ?_ ?_ | refine rt_cmp ?_ ?_ ?_ | refine rt_neg ?_ | refine rt_not ?_ | refine rt_idx ?_ ?_ ?_ | refine rt_bi1 ?_ ?_ | refine rt_bi2 ?_ ?_ ?_
  | refine rt_tup ?_ ?_ (sz_ok (by simp)) | refine rt_lst ?_ ?_ (sz_ok (by simp)) | refine rt_call ?_ ?_ ?_))
theorem sz_ok {n : Nat} (h : n ≤ 1000) : n ≤ sizeLine := Nat.le_trans h (by decide)
theorem bl_of {m : M R} {t u : Bool} (h : Ret m (.val (.bl t))) (e : t = u) : Ret m (.val (.bl u)) := by rw [← e]; exact h
/-! ### the program's -/
theorem lowest_ret {x y : Int} {n : Nat} (hy : y ≠ 0) (h : Sz n y) (hn : n ≤ 9000) : Ret (m_lowest [.int x, .int y]) (.val (qD (lowQ x y))) := by
  have hg := gz_pos (x := x) hy
  have lg := (h.gz (x := x) hy).log hn (by omega)
  refine defM_ret rfl fun K b hk => ?_
  by_cases p : 0 < y
  · have e : lowQ x y = (x.fdiv (gz x y), y.fdiv (gz x y)) := if_pos p
    rw [e] at hk
    refine wp_set (s := .val (.int (gz x y))) (rt_iteT (bl_of (by walk_at "rt") (decide_eq_true p)) (by walk_at "rt")) rfl (wp_ret (rt_tup (rt_cons (rt_bin (rt_var rfl) (rt_var rfl) (rb_div lg)) (rt_cons (rt_bin (rt_var rfl) (rt_var rfl) (rb_div lg)) rt_nil)) (rk_val (rk_val rk_nil)) (sz_ok (by simp))) (fun _ z => by cases z) hk)
  · have e : lowQ x y = (x.fdiv (-gz x y), y.fdiv (-gz x y)) := if_neg p
    rw [e] at hk
    have lg' : (-gz x y) ≠ 0 ∧ (-gz x y).natAbs.log2 < 9000 := ⟨by omega, by rw [Int.natAbs_neg]; exact lg.2⟩
    refine wp_set (s := .val (.int (-gz x y))) (rt_iteF (bl_of (by walk_at "rt") (decide_eq_false p)) (by walk_at "rt")) rfl (wp_ret (rt_tup (rt_cons (rt_bin (rt_var rfl) (rt_var rfl) (rb_div lg')) (rt_cons (rt_bin (rt_var rfl) (rt_var rfl) (rb_div lg')) rt_nil)) (rk_val (rk_val rk_nil)) (sz_ok (by simp))) (fun _ z => by cases z) hk)
/-- whether a whole number -/
def wholeB : D → Bool
  | .int _ => true
  | _ => false
theorem whole_ret {d : D} (h : d.known = true) : Ret (m_is_whole [d]) (.val (.bl (wholeB d))) := by
  refine defM_ret rfl fun K b hk => ?_
  refine wp_ret (r := .val (.bl (wholeB d))) (rt_ands ?_) (fun _ z => by cases z) hk
  refine bl_of (rt_and (rt_isi (rt_var rfl) h) fun _ => rt_and1 (rt_not (rt_isi (rt_var rfl) h))) ?_
  cases d <;> first | rfl | (simp only [List.any_cons, List.any_nil, isiB, R.d, D.ty, wholeB]; decide) | (cases h) | (simp [isiB, R.d, D.ty, wholeB])
/-- the items, if two whole numbers of which the second is above 0 -/
def pairOf (d : D) : Option (Int × Int) := match d.items with
  | some [.int x, .int y] => if 0 < y then some (x, y) else none
  | _ => none
theorem isi_seq (d : D) : [TyN.ty "tuple", TyN.ty "list"].any (isiB d) = d.items.isSome := by
  cases d <;> simp [isiB, D.ty, D.items]
def knownA (d : D) : Bool := d.known && (match d.items with
  | some xs => xs.all D.known
  | none => true)
theorem pair_ret {d : D} (h : knownA d = true) (hs : ∀ xs, d.items = some xs → xs.length ≤ 1000) : Ret (m_is_pair [d]) (.val (.bl (pairOf d).isSome)) := by
  have h' := Bool.and_eq_true_iff.mp h
  have isi : Ret (ev (.not (.isi (.var 0) [.ty "tuple", .ty "list"])) (startE 1 [d])) (.val (.bl (!d.items.isSome))) := by
    refine rt_not (bl_of (rt_isi (rt_var rfl) h'.1) (isi_seq d))
  refine defM_ret rfl fun K b hk => ?_
  cases hi : d.items with
  | none =>
    have e : (pairOf d).isSome = false := by unfold pairOf; rw [hi]; rfl
    rw [e] at hk
    rw [hi] at isi
    exact wp_iteT (rt_ors (rt_orT isi)) (wp_ret (rt_lit _) (fun _ z => by cases z) hk)
  | some xs =>
    have len : Ret (ev (.bi .len (.var 0) none) (startE 1 [d])) (.val (.int xs.length)) := rt_bi1 (rt_var rfl) (rb_len hi)
    rw [hi] at isi
    have two : Ret (ev (.or [.not (.isi (.var 0) [.ty "tuple", .ty "list"]), .cmp .NotEq (.bi .len (.var 0) none) (.lit (.int 2))]) (startE 1 [d])) (.val (.bl (!decide ((xs.length : Int) = 2)))) := rt_ors (rt_orF isi (rt_or1 (rt_cmp len (rt_lit _) rc_ne)))
    by_cases hl : xs.length = 2
    · match xs, hl with
      | [u, v], _ =>
        have ku : u.known = true ∧ v.known = true := by
          have := h'.2
          rw [hi] at this
          simpa using this
        have w0 : Ret (ev (.idx (.var 0) (.lit (.int 0))) (startE 1 [d])) (.val u) := rt_idx (rt_var rfl) (rt_lit _) (ri_idx hi rfl)
        have w1 : Ret (ev (.idx (.var 0) (.lit (.int 1))) (startE 1 [d])) (.val v) := rt_idx (rt_var rfl) (rt_lit _) (ri_idx hi rfl)
        have c0 := rt_call (f := "is_whole") (rt_cons w0 rt_nil) (rk_val rk_nil) (whole_ret ku.1)
        have c1 := rt_call (f := "is_whole") (rt_cons w1 rt_nil) (rk_val rk_nil) (whole_ret ku.2)
        refine wp_iteF (bl_of two (by simp)) (wp_ret (r := .val (.bl (pairOf d).isSome)) (rt_ands ?_) (fun _ z => by cases z) hk)
        unfold pairOf
        rw [hi]
        cases u <;> try exact rt_andF (bl_of c0 rfl)
        cases v <;> try exact rt_andT (bl_of c0 rfl) (rt_andF (bl_of c1 rfl))
        rename_i i j _
        refine rt_andT (bl_of c0 rfl) (rt_andT (bl_of c1 rfl) (rt_and1 (bl_of (rt_cmp w1 (rt_lit _) rc_gt) ?_)))
        by_cases hj : 0 < j
        · simp [hj]
        · simp [hj]
    · have e : (pairOf d).isSome = false := by
        unfold pairOf; rw [hi]
        split
        · rename_i z
          cases z
          exact absurd rfl hl
        · rfl
      rw [e] at hk
      refine wp_iteT (bl_of two ?_) (wp_ret (rt_lit _) (fun _ z => by cases z) hk)
      have : ¬ ((xs.length : Int) = 2) := by omega
      simp [this]
/-- what told makes of it -/
def toldOf : D → Option (Int × Int)
  | .int p => some (p, 1)
  | d => (pairOf d).map fun q => lowQ q.1 q.2
theorem pair_of {d : D} {x y : Int} (h : pairOf d = some (x, y)) : d.items = some [.int x, .int y] ∧ 0 < y := by
  unfold pairOf at h
  split at h
  · rename_i u v e
    split at h
    · rename_i p; cases h; exact ⟨e, p⟩
    · cases h
  · cases h
structure Ok1 (d : D) : Prop where
  k : knownA d = true
  s : ∀ xs, d.items = some xs → xs.length ≤ 1000
theorem Ok1.known {d : D} (h : Ok1 d) : d.known = true := (Bool.and_eq_true_iff.mp h.k).1
def szOf (n : Nat) (d : D) : Prop := ∀ x y, pairOf d = some (x, y) → Sz n y
theorem told_whole {d : D} (h : Ok1 d) (he : toldOf d ≠ none → wholeB d = false) : True := trivial
theorem told_ret {d : D} {q : Int × Int} {n : Nat} (h : Ok1 d) (hs : szOf n d) (hn : n ≤ 9000) (e : toldOf d = some q) : Ret (m_told [d]) (.val (qD q)) := by
  have w := rt_call (f := "is_whole") (rt_cons (rt_var (ρ := startE 1 [d]) (i := 0) rfl) rt_nil) (rk_val rk_nil) (whole_ret h.known)
  have pr := rt_call (f := "is_pair") (rt_cons (rt_var (ρ := startE 1 [d]) (i := 0) rfl) rt_nil) (rk_val rk_nil) (pair_ret h.k h.s)
  refine defM_ret rfl fun K b hk => ?_
  by_cases hw : wholeB d = true
  · cases d <;> try cases hw
    cases e
    exact wp_iteT w (wp_ret (rt_tup (rt_cons (rt_var rfl) (rt_cons (rt_lit _) rt_nil)) (rk_val (rk_val rk_nil)) (sz_ok (by simp))) (fun _ z => by cases z) hk)
  · have e2 : toldOf d = (pairOf d).map fun q => lowQ q.1 q.2 := by
      cases d <;> first | rfl | exact absurd rfl hw
    rw [e2] at e
    cases hp : pairOf d with
    | none => rw [hp] at e; cases e
    | some xy =>
      obtain ⟨x, y⟩ := xy
      rw [hp] at e
      cases e
      obtain ⟨hi, hy⟩ := pair_of hp
      have i0 : Ret (ev (.idx (.var 0) (.lit (.int 0))) (startE 1 [d])) (.val (.int x)) := rt_idx (rt_var rfl) (rt_lit _) (ri_idx hi rfl)
      have i1 : Ret (ev (.idx (.var 0) (.lit (.int 1))) (startE 1 [d])) (.val (.int y)) := rt_idx (rt_var rfl) (rt_lit _) (ri_idx hi rfl)
      refine wp_iteF (bl_of w (by simpa using hw)) (wp_iteF (rt_not (bl_of (u := true) pr (by rw [hp]; rfl))) (wp_ret (rt_call (rt_cons i0 (rt_cons i1 rt_nil)) (rk_val (rk_val rk_nil)) (lowest_ret (by omega) (hs x y hp) hn)) (fun _ z => by cases z) hk))
theorem told_thr {d : D} (h : Ok1 d) (e : toldOf d = none) : Thr (m_told [d]) ⟨"BadRow", [("row", d)]⟩ := by
  have w := rt_call (f := "is_whole") (rt_cons (rt_var (ρ := startE 1 [d]) (i := 0) rfl) rt_nil) (rk_val rk_nil) (whole_ret h.known)
  have pr := rt_call (f := "is_pair") (rt_cons (rt_var (ρ := startE 1 [d]) (i := 0) rfl) rt_nil) (rk_val rk_nil) (pair_ret h.k h.s)
  have hw : wholeB d = false := by cases d <;> first | rfl | cases e
  have hp : pairOf d = none := by
    have e2 : toldOf d = (pairOf d).map fun q => lowQ q.1 q.2 := by
      cases d <;> first | rfl | cases e
    rw [e2] at e
    simpa using e
  refine defM_thr rfl fun K b hk => ?_
  exact wp_iteF (bl_of w hw) (wp_iteT (rt_not (bl_of (u := false) pr (by rw [hp]; rfl))) (wp_raise (rt_cons (rt_var rfl) rt_nil) (rk_val rk_nil) (rt_mkF rfl) (hk _)))
/-- a, b told, at the head of a def of two -/
theorem par_told {a c : D} {p q : Int × Int} {n : Nat} {ss : List S} {K : KS} {b : Nat} (ha : Ok1 a) (hc : Ok1 c) (sa : szOf n a) (sc : szOf n c) (hn : n ≤ 9000) (ea : toldOf a = some p) (ec : toldOf c = some q)
    (h : exs ss [some (.val a), some (.val c), some (.val (qD p)), some (.val (qD q))] K b) : exs (.par [2, 3] [.call "told" m_told [.var 0], .call "told" m_told [.var 1]] :: ss) (startE 4 [a, c]) K b :=
  wp_par (ρ' := [some (.val a), some (.val c), some (.val (qD p)), some (.val (qD q))]) (rt_cons (rt_call (rt_cons (rt_var rfl) rt_nil) (rk_val rk_nil) (told_ret ha sa hn ea)) (rt_cons (rt_call (rt_cons (rt_var rfl) rt_nil) (rk_val rk_nil) (told_ret hc sc hn ec)) rt_nil)) rfl h
theorem thr_call {f : Str} {m : List D → M R} {xs : List E} {ρ : Env'} {rs : List R} {ds : List D} {z : XD} (h1 : Ret (evs xs ρ) rs) (h2 : Ret (keptAll rs) ds) (h3 : Thr (m ds) z) : Thr (ev (.call f m xs) ρ) z := Thr.bnd2 h1 (Thr.bnd2 h2 h3)
theorem thr_cons1 {e : E} {xs : List E} {ρ : Env'} {z : XD} (h : Thr (ev e ρ) z) : Thr (evs (e :: xs) ρ) z := Thr.bnd1 h
theorem thr_cons2 {e : E} {xs : List E} {ρ : Env'} {r : R} {z : XD} (h1 : Ret (ev e ρ) r) (h : Thr (evs xs ρ) z) : Thr (evs (e :: xs) ρ) z := Thr.bnd2 h1 (Thr.bnd1 h)
theorem par_thr {a c d : D} {n : Nat} {ss : List S} {K : KS} {b : Nat} (ha : Ok1 a) (hc : Ok1 c) (sa : szOf n a) (hn : n ≤ 9000) (h : (toldOf a = none ∧ d = a) ∨ ((∃ p, toldOf a = some p) ∧ toldOf c = none ∧ d = c)) (hk : ∀ ρ, K.ex ⟨"BadRow", [("row", d)]⟩ ρ b) :
    exs (.par [2, 3] [.call "told" m_told [.var 0], .call "told" m_told [.var 1]] :: ss) (startE 4 [a, c]) K b := by
  rcases h with ⟨e, rfl⟩ | ⟨⟨p, e⟩, e2, rfl⟩
  · exact wp_thr_par (thr_cons1 (thr_call (rt_cons (rt_var rfl) rt_nil) (rk_val rk_nil) (told_thr ha e))) (hk _)
  · exact wp_thr_par (thr_cons2 (rt_call (rt_cons (rt_var rfl) rt_nil) (rk_val rk_nil) (told_ret ha sa hn e)) (thr_cons1 (thr_call (rt_cons (rt_var rfl) rt_nil) (rk_val rk_nil) (told_thr hc e2)))) (hk _)
end LB
end
-- V54
section
set_option Elab.async false
set_option linter.all false
set_option maxRecDepth 100000
set_option maxHeartbeats 4000000
/-! Ratios: sums, products, shares; the laws' own. -/
namespace LB
open PySem PySem.Spec PyProof.Rows VL
open L2 hiding St
local macro_rules | `(tactic| walk_at "rt") => `(tactic| repeat' (first
  | exact rt_lit _ | exact rt_var rfl | exact rt_nil | exact rk_nil | exact rb_add | exact rb_sub | exact rc_lt | exact rc_le | exact rc_gt | exact rc_ge | exact rc_eq | exact rc_ne | exact rb_gcd | exact rb_abs | exact rb_int | exact rb_bits
  | refine rb_mul ?_ | exact ri_tup rfl | exact ri_idx rfl rfl | refine rk_val ?_ | refine rk_frs ?_ | refine rt_cons ?_ ?_ | refine rt_bin ?_ ?_ ?_ | refine rt_cmp ?_ ?_ ?_ | refine rt_neg ?_ | refine rt_not ?_ | refine rt_idx ?_ ?_ ?_ | refine rt_bi1 ?_ ?_ | refine rt_bi2 ?_ ?_ ?_
  | refine rt_tup ?_ ?_ (sz_ok (by simp)) | refine rt_lst ?_ ?_ (sz_ok (by simp)) | refine rt_call ?_ ?_ ?_))
structure SzQ (n : Nat) (q : Int × Int) : Prop where
  a : Sz n q.1
  b : Sz n q.2
theorem SzQ.mono {n m : Nat} {q : Int × Int} (h : SzQ n q) (hm : n ≤ m) : SzQ m q := ⟨h.a.mono hm, h.b.mono hm⟩
def addQ (p q : Int × Int) : Int × Int := lowQ (p.1 * q.2 + q.1 * p.2) (p.2 * q.2)
def subQ (p q : Int × Int) : Int × Int := lowQ (p.1 * q.2 - q.1 * p.2) (p.2 * q.2)
def mulQ (p q : Int × Int) : Int × Int := lowQ (p.1 * q.1) (p.2 * q.2)
def divQ (p q : Int × Int) : Int × Int := lowQ (p.1 * q.2) (p.2 * q.1)
def ltQ (p q : Int × Int) : Bool := decide (p.1 * q.2 < q.1 * p.2)
section
variable {p q : Int × Int} {n m : Nat}
theorem pos_mul (hp : Lo p) (hq : Lo q) : p.2 * q.2 ≠ 0 := by
  have := Int.mul_pos hp.pos hq.pos
  omega
theorem addQ_lo (hp : Lo p) (hq : Lo q) : Lo (addQ p q) := (lowQ_spec (pos_mul hp hq)).1
theorem subQ_lo (hp : Lo p) (hq : Lo q) : Lo (subQ p q) := (lowQ_spec (pos_mul hp hq)).1
theorem mulQ_lo (hp : Lo p) (hq : Lo q) : Lo (mulQ p q) := (lowQ_spec (pos_mul hp hq)).1
theorem div_ne (hp : Lo p) (h0 : q.1 ≠ 0) : p.2 * q.1 ≠ 0 := Int.mul_ne_zero (by have := hp.pos; omega) h0
theorem divQ_lo (hp : Lo p) (h0 : q.1 ≠ 0) : Lo (divQ p q) := (lowQ_spec (div_ne hp h0)).1
theorem addQ_sz (hp : Lo p) (hq : Lo q) (sp : SzQ n p) (sq : SzQ m q) : SzQ (n + m + 1) (addQ p q) := by
  have s1 : Sz (n + m + 1) (p.1 * q.2 + q.1 * p.2) := (sp.a.mul sq.b).add ((sq.a.mul sp.b).mono (by omega))
  have s2 : Sz (n + m + 1) (p.2 * q.2) := (sp.b.mul sq.b).mono (by omega)
  have := lowQ_sz s1 s2 (pos_mul hp hq)
  exact ⟨this.1, this.2⟩
theorem subQ_sz (hp : Lo p) (hq : Lo q) (sp : SzQ n p) (sq : SzQ m q) : SzQ (n + m + 1) (subQ p q) := by
  have s1 : Sz (n + m + 1) (p.1 * q.2 - q.1 * p.2) := (sp.a.mul sq.b).sub ((sq.a.mul sp.b).mono (by omega))
  have s2 : Sz (n + m + 1) (p.2 * q.2) := (sp.b.mul sq.b).mono (by omega)
  have := lowQ_sz s1 s2 (pos_mul hp hq)
  exact ⟨this.1, this.2⟩
theorem mulQ_sz (hp : Lo p) (hq : Lo q) (sp : SzQ n p) (sq : SzQ m q) : SzQ (n + m) (mulQ p q) := by
  have := lowQ_sz (sp.a.mul sq.a) (sp.b.mul sq.b) (pos_mul hp hq)
  exact ⟨this.1, this.2⟩
theorem divQ_sz (hp : Lo p) (h0 : q.1 ≠ 0) (sp : SzQ n p) (sq : SzQ m q) : SzQ (n + m) (divQ p q) := by
  have := lowQ_sz (sp.a.mul sq.b) (sp.b.mul sq.a) (div_ne hp h0)
  exact ⟨this.1, this.2⟩
/-- a def that lowers -/
def Lows (m : List D → M R) : Prop := ∀ (x y : Int) (n : Nat), y ≠ 0 → Sz n x → Sz n y → n ≤ 9000 → Ret (m [.int x, .int y]) (.val (qD (lowQ x y)))
theorem lows_lowest : Lows m_lowest := fun x y n h _ s hn => lowest_ret h s hn
/-- the body of such a sum -/
theorem sum_term {f : Str} {g : List D → M R} (hg : Lows g) (hp : Lo p) (hq : Lo q) (sp : SzQ n p) (sq : SzQ m q) (hn : n + m + 1 ≤ 9000) {ρ : Env'} (e0 : ρ[0]? = some (some (.val (qD p)))) (e1 : ρ[1]? = some (some (.val (qD q)))) :
    Ret (ev (.call f g [.bin .Add (.bin .Mult (.idx (.var 0) (.lit (.int 0))) (.idx (.var 1) (.lit (.int 1)))) (.bin .Mult (.idx (.var 1) (.lit (.int 0))) (.idx (.var 0) (.lit (.int 1)))), .bin .Mult (.idx (.var 0) (.lit (.int 1))) (.idx (.var 1) (.lit (.int 1)))]) ρ) (.val (qD (addQ p q))) := by
  have a0 : ∀ {k : Int} {x : Int}, atI [D.int p.1, D.int p.2] k = some (.int x) → Ret (ev (.idx (.var 0) (.lit (.int k))) ρ) (.val (.int x)) := fun h => rt_idx (rt_var e0) (rt_lit _) (ri_tup h)
  have a1 : ∀ {k : Int} {x : Int}, atI [D.int q.1, D.int q.2] k = some (.int x) → Ret (ev (.idx (.var 1) (.lit (.int k))) ρ) (.val (.int x)) := fun h => rt_idx (rt_var e1) (rt_lit _) (ri_tup h)
  refine rt_call (rt_cons (rt_bin (rt_bin (a0 rfl) (a1 rfl) (rb_mul (sp.a.cmul sq.b (by omega)))) (rt_bin (a1 rfl) (a0 rfl) (rb_mul (sq.a.cmul sp.b (by omega)))) rb_add) (rt_cons (rt_bin (a0 rfl) (a1 rfl) (rb_mul (sp.b.cmul sq.b (by omega)))) rt_nil)) (rk_val (rk_val rk_nil)) ?_
  exact hg _ _ (n + m + 1) (pos_mul hp hq) ((sp.a.mul sq.b).add ((sq.a.mul sp.b).mono (by omega))) ((sp.b.mul sq.b).mono (by omega)) hn
theorem sub_term {f : Str} {g : List D → M R} (hg : Lows g) (hp : Lo p) (hq : Lo q) (sp : SzQ n p) (sq : SzQ m q) (hn : n + m + 1 ≤ 9000) {ρ : Env'} (e0 : ρ[0]? = some (some (.val (qD p)))) (e1 : ρ[1]? = some (some (.val (qD q)))) :
    Ret (ev (.call f g [.bin .Sub (.bin .Mult (.idx (.var 0) (.lit (.int 0))) (.idx (.var 1) (.lit (.int 1)))) (.bin .Mult (.idx (.var 1) (.lit (.int 0))) (.idx (.var 0) (.lit (.int 1)))), .bin .Mult (.idx (.var 0) (.lit (.int 1))) (.idx (.var 1) (.lit (.int 1)))]) ρ) (.val (qD (subQ p q))) := by
  have a0 : ∀ {k : Int} {x : Int}, atI [D.int p.1, D.int p.2] k = some (.int x) → Ret (ev (.idx (.var 0) (.lit (.int k))) ρ) (.val (.int x)) := fun h => rt_idx (rt_var e0) (rt_lit _) (ri_tup h)
  have a1 : ∀ {k : Int} {x : Int}, atI [D.int q.1, D.int q.2] k = some (.int x) → Ret (ev (.idx (.var 1) (.lit (.int k))) ρ) (.val (.int x)) := fun h => rt_idx (rt_var e1) (rt_lit _) (ri_tup h)
  refine rt_call (rt_cons (rt_bin (rt_bin (a0 rfl) (a1 rfl) (rb_mul (sp.a.cmul sq.b (by omega)))) (rt_bin (a1 rfl) (a0 rfl) (rb_mul (sq.a.cmul sp.b (by omega)))) rb_sub) (rt_cons (rt_bin (a0 rfl) (a1 rfl) (rb_mul (sp.b.cmul sq.b (by omega)))) rt_nil)) (rk_val (rk_val rk_nil)) ?_
  exact hg _ _ (n + m + 1) (pos_mul hp hq) ((sp.a.mul sq.b).sub ((sq.a.mul sp.b).mono (by omega))) ((sp.b.mul sq.b).mono (by omega)) hn
theorem mul_term {f : Str} {g : List D → M R} (hg : Lows g) (hp : Lo p) (hq : Lo q) (sp : SzQ n p) (sq : SzQ m q) (hn : n + m ≤ 9000) {ρ : Env'} (e0 : ρ[0]? = some (some (.val (qD p)))) (e1 : ρ[1]? = some (some (.val (qD q)))) :
    Ret (ev (.call f g [.bin .Mult (.idx (.var 0) (.lit (.int 0))) (.idx (.var 1) (.lit (.int 0))), .bin .Mult (.idx (.var 0) (.lit (.int 1))) (.idx (.var 1) (.lit (.int 1)))]) ρ) (.val (qD (mulQ p q))) := by
  have a0 : ∀ {k : Int} {x : Int}, atI [D.int p.1, D.int p.2] k = some (.int x) → Ret (ev (.idx (.var 0) (.lit (.int k))) ρ) (.val (.int x)) := fun h => rt_idx (rt_var e0) (rt_lit _) (ri_tup h)
  have a1 : ∀ {k : Int} {x : Int}, atI [D.int q.1, D.int q.2] k = some (.int x) → Ret (ev (.idx (.var 1) (.lit (.int k))) ρ) (.val (.int x)) := fun h => rt_idx (rt_var e1) (rt_lit _) (ri_tup h)
  refine rt_call (rt_cons (rt_bin (a0 rfl) (a1 rfl) (rb_mul (sp.a.cmul sq.a (by omega)))) (rt_cons (rt_bin (a0 rfl) (a1 rfl) (rb_mul (sp.b.cmul sq.b (by omega)))) rt_nil)) (rk_val (rk_val rk_nil)) ?_
  exact hg _ _ (n + m) (pos_mul hp hq) (sp.a.mul sq.a) (sp.b.mul sq.b) hn
theorem div_term {f : Str} {g : List D → M R} (hg : Lows g) (hp : Lo p) (h0 : q.1 ≠ 0) (sp : SzQ n p) (sq : SzQ m q) (hn : n + m ≤ 9000) {ρ : Env'} (e0 : ρ[0]? = some (some (.val (qD p)))) (e1 : ρ[1]? = some (some (.val (qD q)))) :
    Ret (ev (.call f g [.bin .Mult (.idx (.var 0) (.lit (.int 0))) (.idx (.var 1) (.lit (.int 1))), .bin .Mult (.idx (.var 0) (.lit (.int 1))) (.idx (.var 1) (.lit (.int 0)))]) ρ) (.val (qD (divQ p q))) := by
  have a0 : ∀ {k : Int} {x : Int}, atI [D.int p.1, D.int p.2] k = some (.int x) → Ret (ev (.idx (.var 0) (.lit (.int k))) ρ) (.val (.int x)) := fun h => rt_idx (rt_var e0) (rt_lit _) (ri_tup h)
  have a1 : ∀ {k : Int} {x : Int}, atI [D.int q.1, D.int q.2] k = some (.int x) → Ret (ev (.idx (.var 1) (.lit (.int k))) ρ) (.val (.int x)) := fun h => rt_idx (rt_var e1) (rt_lit _) (ri_tup h)
  refine rt_call (rt_cons (rt_bin (a0 rfl) (a1 rfl) (rb_mul (sp.a.cmul sq.b (by omega)))) (rt_cons (rt_bin (a0 rfl) (a1 rfl) (rb_mul (sp.b.cmul sq.a (by omega)))) rt_nil)) (rk_val (rk_val rk_nil)) ?_
  exact hg _ _ (n + m) (div_ne hp h0) (sp.a.mul sq.b) (sp.b.mul sq.a) hn
theorem lt_term (sp : SzQ n p) (sq : SzQ m q) (hn : n + m ≤ 9000) {ρ : Env'} (e0 : ρ[0]? = some (some (.val (qD p)))) (e1 : ρ[1]? = some (some (.val (qD q)))) :
    Ret (ev (.cmp .Lt (.bin .Mult (.idx (.var 0) (.lit (.int 0))) (.idx (.var 1) (.lit (.int 1)))) (.bin .Mult (.idx (.var 1) (.lit (.int 0))) (.idx (.var 0) (.lit (.int 1))))) ρ) (.val (.bl (ltQ p q))) := by
  have a0 : ∀ {k : Int} {x : Int}, atI [D.int p.1, D.int p.2] k = some (.int x) → Ret (ev (.idx (.var 0) (.lit (.int k))) ρ) (.val (.int x)) := fun h => rt_idx (rt_var e0) (rt_lit _) (ri_tup h)
  have a1 : ∀ {k : Int} {x : Int}, atI [D.int q.1, D.int q.2] k = some (.int x) → Ret (ev (.idx (.var 1) (.lit (.int k))) ρ) (.val (.int x)) := fun h => rt_idx (rt_var e1) (rt_lit _) (ri_tup h)
  exact rt_cmp (rt_bin (a0 rfl) (a1 rfl) (rb_mul (sp.a.cmul sq.b (by omega)))) (rt_bin (a1 rfl) (a0 rfl) (rb_mul (sq.a.cmul sp.b (by omega)))) rc_lt
/-! ### the program's sums of told ratios -/
theorem one_ret {m : Nat} {x : E} {ds : List D} {d : D} (h : Ret (ev x (startE m ds)) (.val d)) : Ret (defM m ds.length [.ret x] ds) (.val d) := defM_ret rfl fun K b hk => wp_ret h (fun _ z => by cases z) hk
theorem summed_ret (hp : Lo p) (hq : Lo q) (sp : SzQ n p) (sq : SzQ m q) (hn : n + m + 1 ≤ 9000) : Ret (m_summed [qD p, qD q]) (.val (qD (addQ p q))) := one_ret (sum_term lows_lowest hp hq sp sq hn rfl rfl)
theorem lessened_ret (hp : Lo p) (hq : Lo q) (sp : SzQ n p) (sq : SzQ m q) (hn : n + m + 1 ≤ 9000) : Ret (m_lessened [qD p, qD q]) (.val (qD (subQ p q))) := one_ret (sub_term lows_lowest hp hq sp sq hn rfl rfl)
theorem scaled_ret (hp : Lo p) (hq : Lo q) (sp : SzQ n p) (sq : SzQ m q) (hn : n + m ≤ 9000) : Ret (m_scaled [qD p, qD q]) (.val (qD (mulQ p q))) := one_ret (mul_term lows_lowest hp hq sp sq hn rfl rfl)
theorem parted_ret (hp : Lo p) (h0 : q.1 ≠ 0) (sp : SzQ n p) (sq : SzQ m q) (hn : n + m ≤ 9000) : Ret (m_parted [qD p, qD q]) (.val (qD (divQ p q))) := one_ret (div_term lows_lowest hp h0 sp sq hn rfl rfl)
theorem below_ret (sp : SzQ n p) (sq : SzQ m q) (hn : n + m ≤ 9000) : Ret (m_below [qD p, qD q]) (.val (.bl (ltQ p q))) := one_ret (lt_term sp sq hn rfl rfl)
/-! ### of ratios as they are passed -/
/-- a ratio as it may be passed -/
structure Hand (n : Nat) (d : D) (q : Int × Int) : Prop where
  ok : Ok1 d
  sz : szOf n d
  is : toldOf d = some q
  lo : Lo q
  sq : SzQ n q
theorem call2 {f : Str} {g : List D → M R} {ρ : Env'} {d e r : D} (e2 : ρ[2]? = some (some (.val d))) (e3 : ρ[3]? = some (some (.val e))) (h : Ret (g [d, e]) (.val r)) : Ret (ev (.call f g [.var 2, .var 3]) ρ) (.val r) := rt_call (rt_cons (rt_var e2) (rt_cons (rt_var e3) rt_nil)) (rk_val (rk_val rk_nil)) h
theorem plus_ret {a c : D} (ha : Hand n a p) (hc : Hand n c q) (hn : n + n + 1 ≤ 9000) : Ret (m_plus [a, c]) (.val (qD (addQ p q))) := defM_ret rfl fun K b hk =>
  par_told ha.ok hc.ok ha.sz hc.sz (by omega) ha.is hc.is (wp_ret (call2 rfl rfl (summed_ret ha.lo hc.lo ha.sq hc.sq hn)) (fun _ z => by cases z) hk)
theorem minus_ret {a c : D} (ha : Hand n a p) (hc : Hand n c q) (hn : n + n + 1 ≤ 9000) : Ret (m_minus [a, c]) (.val (qD (subQ p q))) := defM_ret rfl fun K b hk =>
  par_told ha.ok hc.ok ha.sz hc.sz (by omega) ha.is hc.is (wp_ret (call2 rfl rfl (lessened_ret ha.lo hc.lo ha.sq hc.sq hn)) (fun _ z => by cases z) hk)
theorem times_ret {a c : D} (ha : Hand n a p) (hc : Hand n c q) (hn : n + n + 1 ≤ 9000) : Ret (m_times [a, c]) (.val (qD (mulQ p q))) := defM_ret rfl fun K b hk =>
  par_told ha.ok hc.ok ha.sz hc.sz (by omega) ha.is hc.is (wp_ret (call2 rfl rfl (scaled_ret ha.lo hc.lo ha.sq hc.sq (by omega))) (fun _ z => by cases z) hk)
theorem less_ret {a c : D} (ha : Hand n a p) (hc : Hand n c q) (hn : n + n + 1 ≤ 9000) : Ret (m_less [a, c]) (.val (.bl (ltQ p q))) := defM_ret rfl fun K b hk =>
  par_told ha.ok hc.ok ha.sz hc.sz (by omega) ha.is hc.is (wp_ret (call2 rfl rfl (below_ret ha.sq hc.sq (by omega))) (fun _ z => by cases z) hk)
theorem share_test {a c : D} : Ret (ev (.cmp .Eq (.idx (.var 3) (.lit (.int 0))) (.lit (.int 0))) [some (.val a), some (.val c), some (.val (qD p)), some (.val (qD q))]) (.val (.bl (decide (q.1 = 0)))) := rt_cmp (rt_idx (rt_var rfl) (rt_lit _) (ri_tup rfl)) (rt_lit _) rc_eq
theorem share_ret {a c : D} (ha : Hand n a p) (hc : Hand n c q) (h0 : q.1 ≠ 0) (hn : n + n + 1 ≤ 9000) : Ret (m_share [a, c]) (.val (qD (divQ p q))) := defM_ret rfl fun K b hk =>
  par_told ha.ok hc.ok ha.sz hc.sz (by omega) ha.is hc.is (wp_iteF (bl_of share_test (decide_eq_false h0)) (wp_ret (call2 rfl rfl (parted_ret ha.lo h0 ha.sq hc.sq (by omega))) (fun _ z => by cases z) hk))
theorem share_thr0 {a c : D} (ha : Hand n a p) (hc : Hand n c q) (h0 : q.1 = 0) (hn : n + n + 1 ≤ 9000) : Thr (m_share [a, c]) ⟨"BadNumber", [("number", .int 0), ("what", .str "share")]⟩ := defM_thr rfl fun K b hk =>
  par_told ha.ok hc.ok ha.sz hc.sz (by omega) ha.is hc.is (wp_iteT (bl_of share_test (decide_eq_true h0)) (wp_raise (rt_cons (rt_lit _) (rt_cons (rt_lit _) rt_nil)) (rk_val (rk_val rk_nil)) (rt_mkF rfl) (hk _)))
/-- which of two is no ratio -/
def BadOf (n : Nat) (a c d : D) : Prop := Ok1 a ∧ Ok1 c ∧ szOf n a ∧ n ≤ 9000 ∧ ((toldOf a = none ∧ d = a) ∨ ((∃ p, toldOf a = some p) ∧ toldOf c = none ∧ d = c))
theorem two_thr {a c d : D} {ss : List S} (h : BadOf n a c d) : Thr (defM 4 2 (.par [2, 3] [.call "told" m_told [.var 0], .call "told" m_told [.var 1]] :: ss) [a, c]) ⟨"BadRow", [("row", d)]⟩ := defM_thr rfl fun K b hk => par_thr h.1 h.2.1 h.2.2.1 h.2.2.2.1 h.2.2.2.2 hk
end
end LB
end
-- V55
section
set_option Elab.async false
set_option linter.all false
set_option maxRecDepth 100000
set_option maxHeartbeats 4000000
/-! The laws' own ratios; what is drawn. -/
namespace VL
open PySem PySem.Spec PyProof.Rows
open L2 hiding St
section
variable {ρ : Env'} {K : KS} {b : Nat} {ss : List S}
/-- a loop's turn -/
def turnS (t : Tg) (body : List S) : D → MS := fun d ρ' K' b' => tgD t d ρ' (fun ρ2 b2 => exs body ρ2 K' b2) (K'.exE ρ') b'
theorem wp_for {t : Tg} {ik : Ik} {its : List E} {body : List S} {rs : List R} {ds ws : List D} (h1 : Ret (evs its ρ) rs) (h2 : Ret (keptAll rs) ds) (h3 : Ret (walkD ik (valsR ds)) ws) (h4 : forM' (turnS t body) ws ρ { K with nx := fun ρ' b' => exs ss ρ' K b' } b) :
    exs (.forS t ik its body :: ss) ρ K b := h1 _ _ _ (h2 _ _ _ (h3 _ _ _ h4))
theorem for_nil {step : D → MS} (h : K.nx ρ b) : forM' step [] ρ K b := h
theorem for_cons {step : D → MS} {d : D} {ds : List D} (h : step d ρ { K with nx := fun ρ' b' => forM' step ds ρ' K b', ct := fun ρ' b' => forM' step ds ρ' K b', bk := K.nx } b) : forM' step (d :: ds) ρ K b := h
theorem wp_brk (h : K.bk ρ b) : exs (.brk :: ss) ρ K b := h
theorem rw_rng {j : Int} (h : -(2 ^ 62) ≤ j ∧ j < 2 ^ 62) : Ret (walkD .rng (valsR [.int j])) (rngD 0 j.toNat) := fun P E b p => ⟨h, p⟩
/-- a test that draws -/
theorem wp_iteG {t : E} {p q : List S} {k : Nat} {φ : Bool → Prop} (h1 : Gets (ev t ρ) k fun r => ∃ c, r = .val (.bl c) ∧ φ c) (hb : k ≤ b) (hT : φ true → ∀ b', b ≤ b' + k → exs p ρ { K with nx := fun ρ' b' => exs ss ρ' K b' } b') (hF : φ false → ∀ b', b ≤ b' + k → exs q ρ { K with nx := fun ρ' b' => exs ss ρ' K b' } b') : exs (.ite t p q :: ss) ρ K b :=
  h1 _ _ _ hb fun r b' ⟨c, e, hc⟩ hb' => by
    subst e
    cases c with
    | true => exact hT hc b' hb'
    | false => exact hF hc b' hb'
theorem wp_setG {i : Nat} {x : E} {k : Nat} {φ : R → Prop} (h1 : Gets (ev x ρ) k φ) (hb : k ≤ b) (h3 : ∀ r b', φ r → b ≤ b' + k → ∃ s, r.slot = some s ∧ exs ss (ρ.set i (some s)) K b') : exs (.set i x :: ss) ρ K b := h1 _ _ _ hb fun r b' hr hb' => by
  obtain ⟨s, e, h⟩ := h3 r b' hr hb'
  show slotK i ρ _ r b'
  unfold slotK
  rw [e]; exact h
theorem wp_parG {is : List Nat} {xs : List E} {k : Nat} {φ : List R → Prop} (h1 : Gets (evs xs ρ) k φ) (hb : k ≤ b) (h3 : ∀ rs b', φ rs → b ≤ b' + k → ∃ ρ', setR ρ is rs = some ρ' ∧ exs ss ρ' K b') : exs (.par is xs :: ss) ρ K b := h1 _ _ _ hb fun rs b' hr hb' => by
  obtain ⟨ρ', e, h⟩ := h3 rs b' hr hb'
  show (match setR ρ is rs with
    | some ρ' => _
    | none => False)
  rw [e]; exact h
theorem wp_retG {x : E} {k : Nat} {φ : R → Prop} (h1 : Gets (ev x ρ) k φ) (hb : k ≤ b) (h3 : ∀ r b', φ r → b ≤ b' + k → (∀ d, r ≠ .own d) ∧ K.rt r b') : exs (.ret x :: ss) ρ K b := h1 _ _ _ hb fun r b' hr hb' => by
  obtain ⟨e, h⟩ := h3 r b' hr hb'
  show retK _ r b'
  cases r with
  | own d => exact absurd rfl (e d)
  | val d => exact h
  | frs d => exact h
/-! ### terms that draw -/
variable {x : R} {k l : Nat} {φ ψ : R → Prop}
theorem gt_call {f : Str} {m : List D → M R} {xs : List E} {rs : List R} {ds : List D} (h1 : Ret (evs xs ρ) rs) (h2 : Ret (keptAll rs) ds) (h3 : Gets (m ds) k φ) : Gets (ev (.call f m xs) ρ) k φ := fun P E b hb p => h1 _ _ _ (h2 _ _ _ (h3 _ _ _ hb p))
theorem gt_callN {f : Str} {m : List D → M R} {xs : List E} {rs : List R} {ds : List D} (h1 : Ret (evs xs ρ) rs) (h2 : Ret (keptAll rs) ds) (h4 : D.noClos ds = true) (h3 : Gets (m ds) k φ) (h5 : ∀ r, φ r → r.d.noClo = true) : Gets (ev (.callC f m xs [] []) ρ) k φ := fun P E b hb p => by
  have q := fills_no (cap := []) (p := fun n => n ∈ ([] : List Nat)) h4
  refine h1 _ _ _ (h2 _ _ _ ?_)
  show handC [] m [] ρ ds P E b
  unfold handC
  refine ⟨q.2, ?_⟩
  unfold handM
  rw [q.1]
  exact h3 _ _ _ hb fun r b' hr hb' => ⟨h5 r hr, p r b' hr hb'⟩
theorem gt_nil : Gets (evs [] ρ) 0 fun rs => rs = [] := fun P E b _ p => p _ _ rfl (Nat.le_refl _)
theorem gt_cons {e : E} {xs : List E} {χ : List R → Prop} (h1 : Gets (ev e ρ) k φ) (h2 : Gets (evs xs ρ) l χ) : Gets (evs (e :: xs) ρ) (k + l) fun rs => ∃ r rs', rs = r :: rs' ∧ φ r ∧ χ rs' := h1.bnd fun r hr => (h2.bnd (l := 0) fun rs hrs => (Ret.pure (r :: rs)).gets ⟨r, rs, rfl, hr, hrs⟩).mono (by omega) fun _ z => z
end
end VL
namespace LB
open PySem PySem.Spec PyProof.Rows VL
open L2 hiding St
/-! ### Euclid's laps -/
def gcdBody : List S := [.ite (.cmp .Eq (.var 1) (.lit (.int 0))) [.brk] [], .par [0, 1] [.var 1, .bin .Mod (.bi .int (.var 0) none) (.var 1)]]
theorem gcd_lap0 {u : Nat} {x : Option R} {d : D} {K : KS} {b : Nat} (h : K.bk [some (.val (.int u)), some (.val (.int 0)), some (.val d)] b) : turnS (.var 2) gcdBody d [some (.val (.int u)), some (.val (.int 0)), x] K b :=
  wp_iteT (bl_of (rt_cmp (rt_var rfl) (rt_lit _) rc_eq) (decide_eq_true rfl)) (wp_brk h)
theorem gcd_lap1 {u v : Nat} {x : Option R} {d : D} {K : KS} {b : Nat} (hv : v ≠ 0) (h : K.nx [some (.val (.int v)), some (.val (.int (u % v : Nat))), some (.val d)] b) : turnS (.var 2) gcdBody d [some (.val (.int u)), some (.val (.int v)), x] K b := by
  have e : (u : Int).fmod (v : Int) = ((u % v : Nat) : Int) := by rw [Int.fmod_eq_emod_of_nonneg _ (by omega)]; rfl
  refine wp_iteF (bl_of (rt_cmp (rt_var rfl) (rt_lit _) rc_eq) (decide_eq_false (by omega))) (wp_nil (wp_par (ρ' := [some (.val (.int v)), some (.val (.int (u % v : Nat))), some (.val d)]) (rs := [.val (.int v), .val (.int ((u : Int).fmod v))]) (rt_cons (rt_var rfl) (rt_cons (rt_bin (rt_bi1 (rt_var rfl) rb_int) (rt_var rfl) (rb_mod (by omega))) rt_nil)) (by rw [e]; rfl) (wp_nil h)))
theorem gcd_laps {K : KS} {b : Nat} : ∀ (k n : Nat) (lo : Int) (u v : Nat) (x : Option R), v < 2 ^ k → 2 * k ≤ n → (∀ ρ', ρ'[0]? = some (some (.val (.int (Nat.gcd u v : Nat)))) → K.nx ρ' b) → forM' (turnS (.var 2) gcdBody) (rngD lo n) [some (.val (.int u)), some (.val (.int v)), x] K b
  | 0, n, lo, u, v, x, hv, hn, h => by
    have : v = 0 := by omega
    subst this
    cases n with
    | zero => exact for_nil (h _ (by simp))
    | succ n => exact for_cons (gcd_lap0 (h _ (by simp)))
  | k + 1, n, lo, u, v, x, hv, hn, h => by
    obtain ⟨m, rfl⟩ : ∃ m, n = m + 2 := ⟨n - 2, by omega⟩
    by_cases h0 : v = 0
    · subst h0
      exact for_cons (gcd_lap0 (h _ (by simp)))
    · refine for_cons (gcd_lap1 h0 ?_)
      have hg : Nat.gcd v (u % v) = Nat.gcd u v := by rw [Nat.gcd_comm v, ← Nat.gcd_rec, Nat.gcd_comm]
      by_cases hw : u % v = 0
      · rw [hw]
        refine for_cons (gcd_lap0 (h _ ?_))
        rw [hw] at hg
        rw [← hg]; simp
      · refine for_cons (gcd_lap1 hw ?_)
        have hlt := Nat.mod_lt u (Nat.pos_of_ne_zero h0)
        have hlt2 := Nat.mod_lt v (Nat.pos_of_ne_zero hw)
        have half : v % (u % v) < 2 ^ k := by
          have e := Nat.div_add_mod v (u % v)
          have d1 : 1 ≤ v / (u % v) := (Nat.le_div_iff_mul_le (Nat.pos_of_ne_zero hw)).2 (by omega)
          have : u % v ≤ u % v * (v / (u % v)) := Nat.le_mul_of_pos_right _ d1
          rw [Nat.pow_succ] at hv
          omega
        refine gcd_laps k m _ _ _ _ half (by omega) fun ρ' e => h ρ' ?_
        rw [e]
        have : Nat.gcd (u % v) (v % (u % v)) = Nat.gcd u v := by rw [← hg, Nat.gcd_comm (u % v), ← Nat.gcd_rec, Nat.gcd_comm]
        rw [this]
theorem abs_nat (x : Int) : (if x < 0 then -x else x) = (x.natAbs : Int) := by
  split <;> omega
theorem bits_lt (v : Nat) : v < 2 ^ (Builtin.Int.intBits (v : Int)) := by
  unfold Builtin.Int.intBits
  by_cases h : v = 0
  · subst h; decide
  · have e : ¬ ((v : Int) = 0) := by omega
    simp only [Int.natAbs_natCast]
    split
    · rename_i z
      simp at z; exact absurd z h
    · exact Nat.lt_log2_self
theorem bits_sz {x : Int} {n : Nat} (h : Sz n x) : Builtin.Int.intBits x ≤ n := by
  unfold Builtin.Int.intBits
  split
  · exact Nat.zero_le _
  · rename_i z
    have : x.natAbs ≠ 0 := fun q => z (by simpa using q)
    exact (Nat.log2_lt this).2 h
theorem gcd_ret {x y : Int} {n : Nat} (h : Sz n y) (hn : n ≤ 9000) : Ret (m_law_gcd [.int x, .int y]) (.val (.int (gz x y))) := by
  refine defM_ret rfl fun K b hk => ?_
  have hb : Builtin.Int.intBits (y.natAbs : Int) ≤ n := bits_sz (by unfold Sz at *; simpa using h)
  refine wp_par (ρ' := [some (.val (.int x.natAbs)), some (.val (.int y.natAbs)), none]) (rs := [.val (.int x.natAbs), .val (.int y.natAbs)]) (by
    have h1 := rt_bi1 (rt_var (ρ := startE 3 [D.int x, D.int y]) (i := 0) rfl) (rb_abs (i := x))
    have h2 := rt_bi1 (rt_var (ρ := startE 3 [D.int x, D.int y]) (i := 1) rfl) (rb_abs (i := y))
    rw [abs_nat] at h1 h2
    exact rt_cons h1 (rt_cons h2 rt_nil)) rfl ?_
  refine wp_for (rs := [.val (.int (4 + 2 * (Builtin.Int.intBits (y.natAbs : Int) : Nat)))]) (ds := [.int (4 + 2 * (Builtin.Int.intBits (y.natAbs : Int) : Nat))]) (rt_cons (rt_bin (rt_lit _) (rt_bin (rt_lit _) (rt_bi1 (rt_bi1 (rt_var rfl) rb_int) rb_bits) (rb_mul ?_)) rb_add) rt_nil) (rk_val rk_nil) (rw_rng ⟨by omega, by omega⟩) ?_
  · refine mulX_small (n := 64) (m := 64) (by decide) ?_ (by decide)
    have : (((Builtin.Int.intBits (y.natAbs : Int) : Nat) : Int)).natAbs = Builtin.Int.intBits (y.natAbs : Int) := Int.natAbs_natCast _
    rw [this]
    exact Nat.lt_of_le_of_lt (Nat.le_trans hb hn) (by decide)
  · refine gcd_laps (Builtin.Int.intBits (y.natAbs : Int)) _ _ _ _ _ (bits_lt _) (by omega) fun ρ' e => ?_
    exact wp_retv e hk
theorem lows_q : Lows m_law_q := fun x y n hy sx sy hn => by
  have hg := gz_pos (x := x) hy
  have lg := (sy.gz (x := x) hy).log hn (by omega)
  refine defM_ret rfl fun K b hk => wp_set (s := .val (.int (gz x y))) (rt_call (rt_cons (rt_var rfl) (rt_cons (rt_var rfl) rt_nil)) (rk_val (rk_val rk_nil)) (gcd_ret sy hn)) rfl ?_
  have test : Ret (ev (.cmp .Lt (.var 1) (.lit (.int 0))) [some (.val (.int x)), some (.val (.int y)), some (.val (.int (gz x y)))]) (.val (.bl (decide (y < 0)))) := rt_cmp (rt_var rfl) (rt_lit _) rc_lt
  by_cases p : 0 < y
  · have e : lowQ x y = (x.fdiv (gz x y), y.fdiv (gz x y)) := if_pos p
    rw [e] at hk
    exact wp_set (s := .val (.int (gz x y))) (rt_iteF (bl_of test (decide_eq_false (by omega))) (rt_var rfl)) rfl (wp_ret (rt_tup (rt_cons (rt_bin (rt_var rfl) (rt_var rfl) (rb_div lg)) (rt_cons (rt_bin (rt_var rfl) (rt_var rfl) (rb_div lg)) rt_nil)) (rk_val (rk_val rk_nil)) (sz_ok (by simp))) (fun _ z => by cases z) hk)
  · have e : lowQ x y = (x.fdiv (-gz x y), y.fdiv (-gz x y)) := if_neg p
    rw [e] at hk
    have lg' : (-gz x y) ≠ 0 ∧ (-gz x y).natAbs.log2 < 9000 := ⟨by omega, by rw [Int.natAbs_neg]; exact lg.2⟩
    exact wp_set (s := .val (.int (-gz x y))) (rt_iteT (bl_of test (decide_eq_true (by omega))) (rt_neg (rt_var rfl))) rfl (wp_ret (rt_tup (rt_cons (rt_bin (rt_var rfl) (rt_var rfl) (rb_div lg')) (rt_cons (rt_bin (rt_var rfl) (rt_var rfl) (rb_div lg')) rt_nil)) (rk_val (rk_val rk_nil)) (sz_ok (by simp))) (fun _ z => by cases z) hk)
section
variable {p q : Int × Int} {n m : Nat}
theorem lplus_ret (hp : Lo p) (hq : Lo q) (sp : SzQ n p) (sq : SzQ m q) (hn : n + m + 1 ≤ 9000) : Ret (m_law_plus [qD p, qD q]) (.val (qD (addQ p q))) := one_ret (sum_term lows_q hp hq sp sq hn rfl rfl)
theorem lminus_ret (hp : Lo p) (hq : Lo q) (sp : SzQ n p) (sq : SzQ m q) (hn : n + m + 1 ≤ 9000) : Ret (m_law_minus [qD p, qD q]) (.val (qD (subQ p q))) := one_ret (sub_term lows_q hp hq sp sq hn rfl rfl)
theorem ltimes_ret (hp : Lo p) (hq : Lo q) (sp : SzQ n p) (sq : SzQ m q) (hn : n + m ≤ 9000) : Ret (m_law_times [qD p, qD q]) (.val (qD (mulQ p q))) := one_ret (mul_term lows_q hp hq sp sq hn rfl rfl)
theorem lshare_ret (hp : Lo p) (h0 : q.1 ≠ 0) (sp : SzQ n p) (sq : SzQ m q) (hn : n + m ≤ 9000) : Ret (m_law_share [qD p, qD q]) (.val (qD (divQ p q))) := one_ret (div_term lows_q hp h0 sp sq hn rfl rfl)
theorem lless_ret (sp : SzQ n p) (sq : SzQ m q) (hn : n + m ≤ 9000) : Ret (m_law_less [qD p, qD q]) (.val (.bl (ltQ p q))) := one_ret (lt_term sp sq hn rfl rfl)
end
/-! ### what is drawn -/
theorem pick_gets {xs : List D} (h0 : xs ≠ []) (hl : xs.length ≤ 1000) : Gets (m_law_pick [.pen, .lst xs]) 1 fun r => ∃ d ∈ xs, r = .val d := by
  have hpos : 0 < xs.length := List.length_pos_iff.mpr h0
  refine defM_gets rfl fun K b hb hk => wp_retG (k := 1) (φ := fun r => ∃ d ∈ xs, r = .val d) ?_ hb fun r b' hr hb' => ⟨?_, hk r b' hr hb'⟩
  · have h1 : Gets (ev (.var 1) (startE 2 [D.pen, D.lst xs])) 0 fun r => r = .val (.lst xs) := (rt_var rfl).gets rfl
    have h2 := gt_call (f := "_law_draw") (ρ := startE 2 [D.pen, D.lst xs]) (rt_cons (rt_var (i := 0) rfl) (rt_cons (rt_bi1 (rt_var (i := 1) rfl) (rb_len rfl)) rt_nil)) (rk_val (rk_val rk_nil)) (draw_gets (many := xs.length) (by omega) (by omega))
    refine Gets.mono (k := 0 + (1 + 0)) (h1.bnd fun x hx => h2.bnd fun y hy => ?_) (by omega) fun _ z => z
    subst hx
    obtain ⟨i, rfl, i0, i1⟩ := hy
    have hi : i.toNat < xs.length := by omega
    refine (ri_idx (x := .val (.lst xs)) (xs := xs) (d := xs[i.toNat]) rfl ?_).gets ⟨_, List.getElem_mem hi, rfl⟩
    unfold atI ixN
    rw [if_pos i0, if_pos (by omega)]
    exact List.getElem?_eq_getElem hi
  · obtain ⟨d, _, rfl⟩ := hr
    exact fun _ z => by cases z
theorem gt_bin {ρ : Env'} {op : Operator} {a c : E} {k l : Nat} {φ ψ χ : R → Prop} (h1 : Gets (ev a ρ) k φ) (h2 : Gets (ev c ρ) l ψ) (h3 : ∀ x y, φ x → ψ y → ∃ r, Ret (binD op x y) r ∧ χ r) : Gets (ev (.bin op a c) ρ) (k + l) χ :=
  Gets.mono (k := k + (l + 0)) (h1.bnd fun x hx => h2.bnd fun y hy => by
    obtain ⟨r, h, hr⟩ := h3 x y hx hy
    exact h.gets hr) (by omega) fun _ z => z
theorem gt_cmp {ρ : Env'} {op : CmpOp} {a c : E} {k l : Nat} {φ ψ χ : R → Prop} (h1 : Gets (ev a ρ) k φ) (h2 : Gets (ev c ρ) l ψ) (h3 : ∀ x y, φ x → ψ y → ∃ r, Ret (cmpD op x y) r ∧ χ r) : Gets (ev (.cmp op a c) ρ) (k + l) χ :=
  Gets.mono (k := k + (l + 0)) (h1.bnd fun x hx => h2.bnd fun y hy => by
    obtain ⟨r, h, hr⟩ := h3 x y hx hy
    exact h.gets hr) (by omega) fun _ z => z
/-- calls with arguments that draw -/
theorem gt_callG {ρ : Env'} {f : Str} {g : List D → M R} {xs : List E} {k l : Nat} {χ : List R → Prop} {φ : R → Prop} (h1 : Gets (evs xs ρ) k χ) (h2 : ∀ rs, χ rs → ∃ ds, Ret (keptAll rs) ds ∧ Gets (g ds) l φ) : Gets (ev (.call f g xs) ρ) (k + l) φ :=
  h1.bnd fun rs hrs => by
    obtain ⟨ds, e, h⟩ := h2 rs hrs
    exact fun P E b hb p => e _ _ _ (h _ _ _ hb p)
/-- a drawn ratio -/
theorem drawn_gets {most : Int} (h0 : 0 ≤ most) (h1 : most ≤ 99999) : Gets (m_law_drawn [.pen, .int most]) 2 fun r => ∃ q, r = .val (qD q) ∧ Lo q ∧ SzQ 20 q := by
  refine defM_gets rfl fun K b hb hk => ?_
  have d := gt_call (f := "_law_draw") (ρ := startE 3 [D.pen, D.int most]) (rt_cons (rt_var (i := 0) rfl) (rt_cons (rt_bin (rt_bin (rt_lit (.int 2)) (rt_var (i := 1) rfl) (rb_mul (mulX_small (n := 64) (m := 64) (by decide) (by omega) (by decide)))) (rt_lit (.int 1)) rb_add) rt_nil)) (rk_val (rk_val rk_nil)) (draw_gets (many := 2 * most + 1) (by omega) (by omega))
  have v1 : Gets (ev (.var 1) (startE 3 [D.pen, D.int most])) 0 fun r => r = .val (.int most) := (rt_var rfl).gets rfl
  refine wp_setG (k := 1) (φ := fun r => ∃ t : Int, r = .val (.int t) ∧ -most ≤ t ∧ t ≤ most) (Gets.mono (k := 1 + 0) (gt_bin d v1 fun x y ⟨i, hx, i0, i1⟩ hy => by
    subst hx hy
    exact ⟨_, rb_sub, _, rfl, by omega, by omega⟩) (by omega) fun _ z => z) (by omega) fun r b1 ⟨t, hr, t0, t1⟩ hb1 => ⟨.val (.int t), by rw [hr]; rfl, ?_⟩
  have pk := gt_call (f := "_law_pick") (ρ := [some (.val D.pen), some (.val (.int most)), some (.val (.int t))]) (rt_cons (rt_var (i := 0) rfl) (rt_cons (rt_lst (rt_cons (rt_lit (.int 1)) (rt_cons (rt_lit (.int 1)) (rt_cons (rt_lit (.int 1)) (rt_cons (rt_lit (.int 2)) (rt_cons (rt_lit (.int 3)) rt_nil))))) (rk_val (rk_val (rk_val (rk_val (rk_val rk_nil))))) (sz_ok (by simp))) rt_nil)) (rk_val (rk_frs rk_nil)) (pick_gets (by simp) (by simp))
  have tv : Gets (ev (.var 2) [some (.val D.pen), some (.val (.int most)), some (.val (.int t))]) 0 fun r => r = .val (.int t) := (rt_var rfl).gets rfl
  refine wp_retG (k := 1) (φ := fun r => ∃ q, r = .val (qD q) ∧ Lo q ∧ SzQ 20 q) (Gets.mono (k := 0 + (1 + 0) + 0) (gt_callG (l := 0) (gt_cons tv (gt_cons pk gt_nil)) fun rs hrs => ?_) (by omega) fun _ z => z) (by omega) fun r b2 hr hb2 => ⟨?_, hk r b2 hr (by omega)⟩
  · obtain ⟨_, _, rfl, rfl, _, _, rfl, ⟨d, hd, rfl⟩, rfl⟩ := hrs
    have hd' : ∃ k : Int, d = .int k ∧ 0 < k ∧ k ≤ 3 := by
      simp at hd
      rcases hd with rfl | rfl | rfl
      · exact ⟨1, rfl, by omega, by omega⟩
      · exact ⟨2, rfl, by omega, by omega⟩
      · exact ⟨3, rfl, by omega, by omega⟩
    obtain ⟨k, rfl, k0, k1⟩ := hd'
    have st : Sz 20 t := by unfold Sz; omega
    have sk : Sz 20 k := by unfold Sz; omega
    have sq := lowQ_sz st sk (by omega)
    exact ⟨_, rk_val (rk_val rk_nil), (lows_q t k 20 (by omega) st sk (by omega)).gets ⟨_, rfl, (lowQ_spec (by omega)).1, ⟨sq.1, sq.2⟩⟩⟩
  · obtain ⟨q, rfl, _⟩ := hr
    exact fun _ z => by cases z
theorem known_pair (x y : Int) : Ok1 (.tup [.int x, .int y]) ∧ Ok1 (.lst [.int x, .int y]) := ⟨⟨rfl, fun xs h => by cases h; simp⟩, ⟨rfl, fun xs h => by cases h; simp⟩⟩
theorem hand_pair {q : Int × Int} {k : Int} {n : Nat} {d : D} (hq : Lo q) (hk : 0 < k) (sk : Sz 3 k) (sq : SzQ n q) (hd : d.items = some [.int (q.1 * k), .int (q.2 * k)]) (ok : Ok1 d) (hw : toldOf d = (pairOf d).map fun q => lowQ q.1 q.2) : Hand (n + 3) d q := by
  have pos := Int.mul_pos hq.pos hk
  have e : pairOf d = some (q.1 * k, q.2 * k) := by
    unfold pairOf
    rw [hd]
    simp [pos]
  refine ⟨ok, fun x y h => ?_, by rw [hw, e]; show some (lowQ _ _) = _; rw [lowQ_scale hq hk], hq, sq.mono (by omega)⟩
  rw [e] at h
  cases h
  exact sq.b.mul sk
/-- a told ratio in one of the ways in which it may be passed -/
theorem handed_gets {q : Int × Int} {n : Nat} (hq : Lo q) (sq : SzQ n q) (hn : n ≤ 8000) : Gets (m_law_handed [.pen, qD q]) 3 fun r => ∃ d, r = .val d ∧ Hand (n + 3) d q ∧ d.noClo = true := by
  refine defM_gets rfl fun K b hb hk => ?_
  have q0 : Ret (ev (.idx (.var 1) (.lit (.int 0))) (startE 3 [D.pen, qD q])) (.val (.int q.1)) := rt_idx (rt_var rfl) (rt_lit _) (ri_tup rfl)
  have q1 : Ret (ev (.idx (.var 1) (.lit (.int 1))) (startE 3 [D.pen, qD q])) (.val (.int q.2)) := rt_idx (rt_var rfl) (rt_lit _) (ri_tup rfl)
  have c1 := rt_cmp q1 (rt_lit (.int 1)) rc_eq
  have d2 := gt_call (f := "_law_draw") (ρ := startE 3 [D.pen, qD q]) (rt_cons (rt_var (i := 0) rfl) (rt_cons (rt_lit (.int 2)) rt_nil)) (rk_val (rk_val rk_nil)) (draw_gets (many := 2) (by omega) (by omega))
  have z0 : Gets (ev (.lit (.int 0)) (startE 3 [D.pen, qD q])) 0 fun r => r = .val (.int 0) := (rt_lit _).gets rfl
  have test : Gets (ev (.and [.cmp .Eq (.idx (.var 1) (.lit (.int 1))) (.lit (.int 1)), .cmp .Eq (.call "_law_draw" m_law_draw [.var 0, .lit (.int 2)]) (.lit (.int 0))]) (startE 3 [D.pen, qD q])) 1 fun r => ∃ c, r = .val (.bl c) ∧ (c = true → q.2 = 1) := by
    by_cases h1 : q.2 = 1
    · have t1 := bl_of c1 (decide_eq_true h1)
      refine fun P E b hb p => t1 _ _ _ ?_
      refine (Gets.mono (k := 1 + 0) (gt_cmp d2 z0 fun x y ⟨i, hx, _⟩ hy => ?_) (by omega) fun _ z => z) P E b hb fun r b' hr hb' => p r b' hr hb'
      subst hx hy
      exact ⟨_, rc_eq, _, rfl, fun _ => h1⟩
    · exact (rt_ands (rt_andF (bl_of c1 (decide_eq_false h1)))).gets ⟨false, rfl, fun z => by cases z⟩
  refine wp_iteG test (by omega) (fun h b' hb' => ?_) fun _ b' hb' => wp_nil ?_
  · have h1 : q.2 = 1 := h rfl
    refine wp_ret q0 (fun _ z => by cases z) (hk _ b' ⟨.int q.1, rfl, ⟨⟨rfl, (fun xs z => by cases z)⟩, (fun x y z => by cases z), ?_, hq, sq.mono (by omega)⟩, rfl⟩ (by omega))
    show some (q.1, (1 : Int)) = some q
    rw [← h1]
  · have pk := gt_call (f := "_law_pick") (ρ := startE 3 [D.pen, qD q]) (rt_cons (rt_var (i := 0) rfl) (rt_cons (rt_lst (rt_cons (rt_lit (.int 1)) (rt_cons (rt_lit (.int 1)) (rt_cons (rt_lit (.int 2)) (rt_cons (rt_lit (.int 5)) rt_nil)))) (rk_val (rk_val (rk_val (rk_val rk_nil)))) (sz_ok (by simp))) rt_nil)) (rk_val (rk_frs rk_nil)) (pick_gets (by simp) (by simp))
    refine wp_setG pk (by omega) fun r b1 ⟨d, hd, hr⟩ hb1 => ?_
    have hd' : ∃ k : Int, d = .int k ∧ 0 < k ∧ k ≤ 5 := by
      simp at hd
      rcases hd with rfl | rfl | rfl
      · exact ⟨1, rfl, by omega, by omega⟩
      · exact ⟨2, rfl, by omega, by omega⟩
      · exact ⟨5, rfl, by omega, by omega⟩
    obtain ⟨k, rfl, k0, k1⟩ := hd'
    subst hr
    refine ⟨_, rfl, ?_⟩
    have sk : Sz 3 k := by unfold Sz; omega
    have m0 : Ret (ev (.bin .Mult (.idx (.var 1) (.lit (.int 0))) (.var 2)) [some (.val D.pen), some (.val (qD q)), some (.val (.int k))]) (.val (.int (q.1 * k))) := rt_bin (rt_idx (rt_var rfl) (rt_lit _) (ri_tup rfl)) (rt_var rfl) (rb_mul (sq.a.cmul sk (by omega)))
    have m1 : Ret (ev (.bin .Mult (.idx (.var 1) (.lit (.int 1))) (.var 2)) [some (.val D.pen), some (.val (qD q)), some (.val (.int k))]) (.val (.int (q.2 * k))) := rt_bin (rt_idx (rt_var rfl) (rt_lit _) (ri_tup rfl)) (rt_var rfl) (rb_mul (sq.b.cmul sk (by omega)))
    have pk2 := gt_call (f := "_law_pick") (ρ := [some (.val D.pen), some (.val (qD q)), some (.val (.int k))]) (rt_cons (rt_var (i := 0) rfl) (rt_cons (rt_lst (rt_cons (rt_tup (rt_cons m0 (rt_cons m1 rt_nil)) (rk_val (rk_val rk_nil)) (sz_ok (by simp))) (rt_cons (rt_lst (rt_cons m0 (rt_cons m1 rt_nil)) (rk_val (rk_val rk_nil)) (sz_ok (by simp))) rt_nil)) (rk_val (rk_frs rk_nil)) (sz_ok (by simp))) rt_nil)) (rk_val (rk_frs rk_nil)) (pick_gets (by simp) (by simp))
    refine wp_retG pk2 (by omega) fun r b2 ⟨d, hd, hr⟩ hb2 => ?_
    subst hr
    refine ⟨(fun _ z => by cases z), hk _ b2 ⟨d, rfl, ?_⟩ (by omega)⟩
    have kp := known_pair (q.1 * k) (q.2 * k)
    simp at hd
    rcases hd with rfl | rfl
    · exact ⟨hand_pair hq k0 sk sq rfl kp.1 rfl, rfl⟩
    · exact ⟨hand_pair hq k0 sk sq rfl kp.2 rfl, rfl⟩
end LB
end
-- V56
section
set_option Elab.async false
set_option linter.all false
set_option maxRecDepth 100000
set_option maxHeartbeats 4000000
/-! Texts of data. -/
namespace VL
open PySem PySem.Spec PyProof.Rows
open L2 hiding St
/-- data that may be told: w the text's length, h the depth; without dicts -/
structure Shw (d : D) (p : PyData) (w h : Nat) : Prop where
  py : d.pyr = some p
  sh : p.showable = true
  le : p.shown.length ≤ w
  dp : p.depth ≤ h
  nd : p.hasDict = false
inductive ShwL : List D → List PyData → Nat → Nat → Prop
  | nil : ShwL [] [] 0 0
  | cons {d : D} {p : PyData} {w h : Nat} {ds : List D} {ps : List PyData} {w' h' : Nat} : Shw d p w h → ShwL ds ps w' h' → ShwL (d :: ds) (p :: ps) (w + 2 + w') (max h h')
theorem shw_non : Shw .non .none 5 0 := ⟨rfl, rfl, by decide, by decide, rfl⟩
theorem shw_bl (b : Bool) : Shw (.bl b) (.bool b) 5 0 := by cases b <;> exact ⟨rfl, rfl, by decide, by decide, rfl⟩
theorem shw_int {i : Int} (h : i.natAbs < 2 ^ 1920) : Shw (.int i) (.int i) 1921 0 := by
  have hl : i.natAbs.log2 < 1920 := by
    by_cases z : i.natAbs = 0
    · rw [z]; decide
    · exact (Nat.log2_lt z).2 h
  exact ⟨rfl, decide_eq_true hl, int_text_len_1921 hl, Nat.le_refl _, rfl⟩
theorem ShwL.pys {ds : List D} {ps : List PyData} {w h : Nat} (s : ShwL ds ps w h) : D.pyrs ds = some ps ∧ PyData.showableAll ps = true ∧ ((PyData.shownAll ps).map (·.length)).sum + 2 * ps.length ≤ w ∧ PyData.depthAll ps ≤ h ∧ PyData.hasDictAll ps = false ∧ (PyData.shownAll ps).length = ps.length := by
  induction s with
  | nil => exact ⟨rfl, rfl, by simp [PyData.shownAll], by simp [PyData.depthAll], by simp [PyData.hasDictAll], by simp [PyData.shownAll]⟩
  | cons a _ ih =>
    obtain ⟨i1, i2, i3, i4, i5, i6⟩ := ih
    refine ⟨?_, ?_, ?_, ?_, ?_, ?_⟩
    · unfold D.pyrs; rw [a.py, i1]
    · unfold PyData.showableAll; rw [a.sh, i2]; rfl
    · unfold PyData.shownAll
      simp only [List.map_cons, List.sum_cons, List.length_cons]
      have := a.le
      omega
    · unfold PyData.depthAll
      have := a.dp
      omega
    · unfold PyData.hasDictAll; rw [a.nd, i5]; rfl
    · unfold PyData.shownAll; rw [List.length_cons, List.length_cons, i6]
theorem shw_tup {ds : List D} {ps : List PyData} {w h : Nat} (s : ShwL ds ps w h) : Shw (.tup ds) (.tuple ps) (w + 3) (h + 1) := by
  obtain ⟨i1, i2, i3, i4, i5, i6⟩ := s.pys
  refine ⟨?_, ?_, ?_, ?_, ?_⟩
  · unfold D.pyr; rw [i1]; rfl
  · unfold PyData.showable; exact i2
  · unfold PyData.shown
    have := tupleText_len_le (PyData.shownAll ps)
    rw [i6] at this
    omega
  · unfold PyData.depth; omega
  · unfold PyData.hasDict; exact i5
theorem shw_lst {ds : List D} {ps : List PyData} {w h : Nat} (s : ShwL ds ps w h) : Shw (.lst ds) (.list ps) (w + 3) (h + 1) := by
  obtain ⟨i1, i2, i3, i4, i5, i6⟩ := s.pys
  refine ⟨?_, ?_, ?_, ?_, ?_⟩
  · unfold D.pyr; rw [i1]; rfl
  · unfold PyData.showable; exact i2
  · unfold PyData.shown
    have := listText_len_le (PyData.shownAll ps)
    rw [i6] at this
    omega
  · unfold PyData.depth; omega
  · unfold PyData.hasDict; exact i5
theorem rp_shw {x : R} {p : PyData} {w h : Nat} (s : Shw x.d p w h) (hw : w ≤ sizeLine) (hh : h ≤ 64) : Ret (biD .repr x none) (.val (.str p.shown)) := rb_repr s.py ⟨s.sh, Nat.le_trans s.le hw, Nat.le_trans s.dp hh, .inl s.nd⟩
/-- two texts, one -/
theorem rc_strE (x : Str) : Ret (cmpD .Eq (.val (.str x)) (.val (.str x))) (.val (.bl true)) := by
  have h := rc_eqS (s := x) (u := x)
  rw [decide_eq_true rfl] at h
  exact h
theorem rc_strN (x : Str) : Ret (cmpD .NotEq (.val (.str x)) (.val (.str x))) (.val (.bl false)) := by
  have h := rc_neS (s := x) (u := x)
  rw [decide_eq_true rfl] at h
  exact h
/-! ### loops with a budget -/
theorem for_inv {step : D → MS} {ds : List D} {ρ : Env'} {K : KS} {b : Nat} (I : Env' → Prop) (k : Nat) (hs : ∀ d ∈ ds, ∀ (ρ : Env') (K : KS) (b : Nat), I ρ → k ≤ b → (∀ ρ' b', I ρ' → b ≤ b' + k → K.nx ρ' b') → step d ρ K b) (h0 : I ρ) (hb : k * ds.length ≤ b)
    (hn : ∀ ρ' b', I ρ' → b ≤ b' + k * ds.length → K.nx ρ' b') : forM' step ds ρ K b := by
  induction ds generalizing ρ b with
  | nil => exact hn ρ b h0 (by omega)
  | cons d ds ih =>
    rw [List.length_cons, Nat.mul_succ] at hb
    refine for_cons (hs d List.mem_cons_self ρ _ b h0 (by omega) fun ρ' b' h' hb' => ?_)
    refine ih (fun d hd => hs d (List.mem_cons_of_mem _ hd)) h' (by omega) fun ρ2 b2 h2 hb2 => hn ρ2 b2 h2 ?_
    rw [List.length_cons, Nat.mul_succ]
    omega
theorem gt_callNG {ρ : Env'} {f : Str} {g : List D → M R} {xs : List E} {k l : Nat} {χ : List R → Prop} {φ : R → Prop} (h1 : Gets (evs xs ρ) k χ) (h2 : ∀ rs, χ rs → ∃ ds, Ret (keptAll rs) ds ∧ D.noClos ds = true ∧ Gets (g ds) l φ) (h5 : ∀ r, φ r → r.d.noClo = true) : Gets (ev (.callC f g xs [] []) ρ) (k + l) φ :=
  h1.bnd fun rs hrs => by
    obtain ⟨ds, e, h4, h⟩ := h2 rs hrs
    have q := fills_no (cap := []) (p := fun n => n ∈ ([] : List Nat)) h4
    intro P E b hb p
    refine e _ _ _ ?_
    show handC [] g [] ρ ds P E b
    unfold handC
    refine ⟨q.2, ?_⟩
    unfold handM
    rw [q.1]
    exact h _ _ _ hb fun r b' hr hb' => ⟨h5 r hr, p r b' hr hb'⟩
theorem Ret.g {α : Type} {m : M α} {a : α} (h : Ret m a) : Gets m 0 fun x => x = a := h.gets rfl
end VL
end
-- V57
section
set_option Elab.async false
set_option linter.all false
set_option maxRecDepth 100000
set_option maxHeartbeats 4000000
/-! Comprehensions, errors told. -/
namespace VL
open PySem PySem.Spec PyProof.Rows
open L2 hiding St
/-! ### comprehensions without draws -/
theorem compD_ret {step : D → M (Option D)} {f : D → D} : ∀ {ds : List D}, (∀ d ∈ ds, Ret (step d) (some (f d))) → Ret (compD step ds) (ds.map f)
  | [], _ => Ret.pure _
  | d :: ds, h => (h d List.mem_cons_self).bnd ((compD_ret fun x hx => h x (List.mem_cons_of_mem _ hx)).bnd (Ret.pure _))
/-- [e for t in xs] -/
theorem rt_comp {elt : E} {tg : Tg} {ik : Ik} {its : List E} {own : List (Str × Nat)} {ρ : Env'} {rs : List R} {ds : List D} {f : D → D} (h1 : Ret (evs its ρ) rs) (h2 : Ret (walkD ik rs) ds) (hl : ds.length ≤ sizeLine)
    (h3 : ∀ d ∈ ds, ∃ ρ1, Ret (tgD tg d (wipeE ρ (own.map (·.2)))) ρ1 ∧ ∃ r, Ret (ev elt ρ1) r ∧ Ret r.kept (f d)) : Ret (ev (.comp elt tg ik its none own) ρ) (.frs (.lst (ds.map f))) := by
  refine h1.bnd (h2.bnd (Ret.need hl ((compD_ret (f := f) fun d hd => ?_).bnd (Ret.pure _))))
  obtain ⟨ρ1, a, r, c, e⟩ := h3 d hd
  exact fun P E b p => a _ _ _ (c _ _ _ (e _ _ _ p))
theorem rw_seq {r : R} {xs : List D} (h : r.d.items = some xs) : Ret (walkD .seq [r]) xs := Ret.opt h
theorem rtg_var {i : Nat} {d : D} {ρ : Env'} : Ret (tgD (.var i) d ρ) (ρ.set i (some (.val d))) := Ret.pure _
theorem rtg_tup {is : List Nat} {ds : List D} {ρ ρ' : Env'} (h : setAll ρ is ds = some ρ') : Ret (tgD (.tup is) (.tup ds) ρ) ρ' := Ret.opt h
theorem rk_v (d : D) : Ret (R.kept (.val d)) d := Ret.pure _
theorem rk_f (d : D) : Ret (R.kept (.frs d)) d := Ret.pure _
/-! ### errors, told -/
def tellOf : List Tell → XD → Option D
  | [], _ => none
  | (c, tag, fs) :: r, z => if z.cls = c then (fs.mapM fun f => z.fs.lookup f).bind fun ds => if ds.length < 100 then some (.tup (.str tag :: ds)) else none else tellOf r z
theorem mapM_map {α β : Type} (f : α → Option β) : ∀ (l : List α) (ys : List β), l.mapM f = some ys → l.map f = ys.map some
  | [], ys, h => by simp at h; subst h; rfl
  | x :: l, ys, h => by
    rw [List.mapM_cons] at h
    cases e : f x with
    | none => rw [e] at h; cases h
    | some y =>
      rw [e] at h
      cases e2 : l.mapM f with
      | none => rw [e2] at h; cases h
      | some zs =>
        rw [e2] at h
        have h : some (y :: zs) = some ys := h
        cases h
        rw [List.map_cons, List.map_cons, e, mapM_map f l zs e2]
theorem tell_ok {z : XD} {d : D} {P : R → Nat → Prop} {b : Nat} : ∀ {tab : List Tell}, tellOf tab z = some d → P (.val d) b → z.cls ∈ tab.map (·.1) ∧ tellK tab z P b
  | [], h, _ => by cases h
  | (c, tag, fs) :: r, h, p => by
    unfold tellOf at h
    unfold tellK
    by_cases e : z.cls = c
    · rw [if_pos e] at h ⊢
      refine ⟨by rw [e]; exact List.mem_cons_self, ?_⟩
      cases q : fs.mapM fun f => z.fs.lookup f with
      | none => rw [q] at h; cases h
      | some ds =>
        rw [q] at h
        have h : (if ds.length < 100 then some (D.tup (.str tag :: ds)) else none) = some d := h
        split at h
        · rename_i l
          cases h
          exact ⟨ds, mapM_map _ _ _ q, l, p⟩
        · cases h
    · rw [if_neg e] at h ⊢
      obtain ⟨h1, h2⟩ := tell_ok h p
      exact ⟨List.mem_cons_of_mem _ h1, h2⟩
/-- the names a lambda captured -/
def capE (NL : List Str) (cap : List (Str × D)) : Env' := NL.map fun y => (cap.lookup y).map R.val
theorem fault_thr {tab : List Tell} {lt : LamT} {n : Nat} {cap : List (Str × D)} {x : E} {NL : List Str} {z : XD} {d : D} (h1 : lt n = some (x, NL)) (h2 : D.noCloK cap = true) (h3 : Thr (ev x (capE NL cap)) z) (h4 : tellOf tab z = some d) : Ret (faultM tab lt [.clo n cap]) (.val d) := fun P E b p => by
  show actM lt n cap _ _ b
  unfold actM
  rw [h1]
  exact ⟨h2, h3 _ _ _ (tell_ok h4 p)⟩
theorem fault_none {tab : List Tell} {lt : LamT} {n : Nat} {cap : List (Str × D)} {x : E} {NL : List Str} {r : R} (h1 : lt n = some (x, NL)) (h2 : D.noCloK cap = true) (h3 : Ret (ev x (capE NL cap)) r) : Ret (faultM tab lt [.clo n cap]) (.val .non) := fun P E b p => by
  show actM lt n cap _ _ b
  unfold actM
  rw [h1]
  exact ⟨h2, h3 _ _ _ p⟩
theorem wp_asgsG {gs : List Pl} {x : E} {ρ : Env'} {K : KS} {b k : Nat} {ss : List S} {φ : R → Prop} (h1 : Gets (ev x ρ) k φ) (hb : k ≤ b) (h3 : ∀ r b', φ r → b ≤ b' + k → ∃ ds, r = .val (.tup ds) ∧ ds.length = gs.length ∧ plsM gs ds ρ { K with nx := fun ρ' b' => exs ss ρ' K b' } b') : exs (.asgs gs x :: ss) ρ K b := h1 _ _ _ hb fun r b' hr hb' => by
  obtain ⟨ds, rfl, h, h'⟩ := h3 r b' hr hb'
  exact ⟨h, h'⟩
theorem gt_tup {xs : List E} {ρ : Env'} {k : Nat} {χ : List R → Prop} {φ : R → Prop} (h1 : Gets (evs xs ρ) k χ) (h2 : ∀ rs, χ rs → ∃ ds, Ret (keptAll rs) ds ∧ ds.length ≤ 1000 ∧ φ (.val (.tup ds))) : Gets (ev (.tup xs) ρ) k φ :=
  Gets.mono (k := k + 0) (h1.bnd fun rs hrs => by
    obtain ⟨ds, a, l, f⟩ := h2 rs hrs
    exact (a.bnd (Ret.need (Nat.le_trans l (by decide)) (Ret.pure _))).gets f) (by omega) fun _ z => z
end VL
end
-- V58
section
set_option Elab.async false
set_option linter.all false
set_option maxRecDepth 100000
set_option maxHeartbeats 4000000
/-! Tries and what is due of them. -/
namespace VL
open PySem PySem.Spec PyProof.Rows
open L2 hiding St
open LB
theorem rc_is {u t : Bool} : Ret (cmpD .Is (.val (.bl u)) (.val (.bl t))) (.val (.bl (decide (u = t)))) := Ret.pure _
/-- data with a text -/
def Tellable (d : D) : Prop := ∃ p, d.pyr = some p ∧ p.showable = true ∧ p.shown.length ≤ sizeLine ∧ p.depth ≤ 64 ∧ (p.hasDict = false ∨ d.noLst = true)
def dueB (mf : List D → M R) : List S := [.ret (.bi .all (.comp (.cmp .Eq (.bi .repr (.call "_law_fault" mf [.var 1]) none) (.bi .repr (.var 2) none)) (.tup [1, 2]) .seq [.var 0] none [("action", 1), ("due", 2)]) none)]
def actD (x : D × D) : D := .tup [x.1, x.2]
theorem bools_true : ∀ l : List D, boolsOf (l.map fun _ => D.bl true) = some (l.map fun _ => true)
  | [] => rfl
  | _ :: l => by
    simp only [List.map_cons, boolsOf, bools_true l]
    first | rfl | simp
theorem due_ret {mf : List D → M R} {acts : List (D × D)} (hl : acts.length ≤ 1000) (h : ∀ x ∈ acts, Ret (mf [x.1]) (.val x.2) ∧ Tellable x.2) : Ret (defM 3 1 (dueB mf) [.lst (acts.map actD)]) (.val (.bl true)) := by
  refine defM_ret rfl fun K b hk => wp_ret (r := .val (.bl true)) (rt_bi1 (rt_comp (ds := acts.map actD) (f := fun _ => .bl true) (rt_cons (rt_var rfl) rt_nil) (rw_seq rfl) (sz_ok (by simpa using hl)) fun d hd => ?_) ?_) (fun _ z => by cases z) hk
  · obtain ⟨x, hx, rfl⟩ := List.mem_map.mp hd
    obtain ⟨h1, p, h2, h3⟩ := h x hx
    exact ⟨_, rtg_tup rfl, _, rt_cmp (rt_bi1 (rt_call (rt_cons (rt_var rfl) rt_nil) (rk_val rk_nil) h1) (rb_repr (x := .val x.2) h2 h3)) (rt_bi1 (rt_var rfl) (rb_repr (x := .val x.2) h2 h3)) (rc_strE _), rk_v _⟩
  · have q := rb_all (x := .frs (.lst ((acts.map actD).map fun _ => D.bl true))) rfl (bools_true _)
    exact bl_of q (by simp)
/-- the names a call hands on -/
theorem cap_nil {ρ : Env'} : capOf ρ [] = some [] := rfl
theorem cap_cons {ρ : Env'} {y : Str} {i : Nat} {r : List (Str × Nat)} {d : D} {l : List (Str × D)} (h : ρ[i]? = some (some (.val d))) (n : d.noClo = true) (h2 : capOf ρ r = some l) : capOf ρ ((y, i) :: r) = some ((y, d) :: l) := by
  unfold capOf
  rw [h, h2]
  exact if_pos n
/-- lambdas and what is due of each, before they are handed on -/
def rawD (x : Nat × D) : D := .tup [.clo x.1 [], x.2]
theorem fills_raw {cap : List (Str × D)} {l : List (Nat × D)} (h : ∀ x ∈ l, x.2.noClo = true) : D.fills cap (l.map rawD) = (l.map fun x => actD (.clo x.1 cap, x.2)) := by
  induction l with
  | nil => simp [D.fills]
  | cons x l ih =>
    rw [List.map_cons, List.map_cons, D.fills, ih fun y hy => h y (List.mem_cons_of_mem _ hy)]
    congr 1
    have e := (fill_no (cap := cap) (p := fun _ => True) (h x List.mem_cons_self)).1
    unfold rawD actD
    rw [D.fill, D.fills, D.fills, D.fills, e, D.fill]
theorem all_raw {p : Nat → Prop} {l : List (Nat × D)} (h : ∀ x ∈ l, x.2.noClo = true ∧ p x.1) : D.allCs p (l.map rawD) := by
  induction l with
  | nil => simp [D.allCs]
  | cons x l ih =>
    rw [List.map_cons, D.allCs]
    have e := (fill_no (cap := []) (p := p) (h x List.mem_cons_self).1).2
    refine ⟨?_, ih fun y hy => h y (List.mem_cons_of_mem _ hy)⟩
    unfold rawD
    simp only [D.allC, D.allCs]
    exact ⟨(h x List.mem_cons_self).2, e, trivial⟩
/-- the tries are due, in the law -/
theorem tries_ret {mf : List D → M R} {ρ : Env'} {i : Nat} {l : List (Nat × D)} {caps : List (Str × Nat)} {ns : List Nat} {cap : List (Str × D)} (h0 : ρ[i]? = some (some (.val (.lst (l.map rawD))))) (hl : l.length ≤ 1000) (hc : capOf ρ caps = some cap) (hn : ∀ x ∈ l, x.2.noClo = true ∧ x.1 ∈ ns) (h : ∀ x ∈ l, Ret (mf [.clo x.1 cap]) (.val x.2) ∧ Tellable x.2) :
    Ret (ev (.callC "_law_are_due" (defM 3 1 (dueB mf)) [.var i] caps ns) ρ) (.val (.bl true)) := by
  refine rt_callC (rt_cons (rt_var h0) rt_nil) (rk_val rk_nil) hc ?_ ?_ rfl
  · simp only [D.allCs, D.allC]
    exact ⟨all_raw hn, trivial⟩
  · simp only [D.fills, D.fill]
    rw [fills_raw fun x hx => (hn x hx).1, show (l.map fun x => actD (.clo x.1 cap, x.2)) = (l.map fun x => (D.clo x.1 cap, x.2)).map actD by rw [List.map_map]; rfl]
    refine due_ret (by simpa using hl) fun x hx => ?_
    obtain ⟨y, hy, rfl⟩ := List.mem_map.mp hx
    exact h y hy
end VL
end
-- HD02
section
set_option Elab.async false
set_option linter.all false
set_option maxRecDepth 100000
set_option maxHeartbeats 0
namespace K02
open PySem PySem.Spec PyProof.Rows L2
def top (i : Nat) : Stmt := PySem.Challenge.pw_loanpapers_k02_ratios.main.body.getD i (.Pass ⟨0, 0, 0, 0⟩)
def meth (i j : Nat) : Stmt := match top i with
  | .ClassDef _ _ _ b _ _ _ _ _ _ _ => b.getD j (.Pass ⟨0, 0, 0, 0⟩)
  | s => s
def dd_is_whole : He.DefD := ⟨("is_whole", none), "is_whole", "is_whole", defArgs (top 9), defBody (top 9), defScope (top 9), [], []⟩
def dd_is_pair : He.DefD := ⟨("is_pair", none), "is_pair", "is_pair", defArgs (top 11), defBody (top 11), defScope (top 11), [], []⟩
def dd_is_ratio : He.DefD := ⟨("is_ratio", none), "is_ratio", "is_ratio", defArgs (top 12), defBody (top 12), defScope (top 12), [], []⟩
def dd_lowest : He.DefD := ⟨("lowest", none), "lowest", "lowest", defArgs (top 13), defBody (top 13), defScope (top 13), [], []⟩
def dd_told : He.DefD := ⟨("told", none), "told", "told", defArgs (top 14), defBody (top 14), defScope (top 14), [], []⟩
def dd_summed : He.DefD := ⟨("summed", none), "summed", "summed", defArgs (top 15), defBody (top 15), defScope (top 15), [], []⟩
def dd_lessened : He.DefD := ⟨("lessened", none), "lessened", "lessened", defArgs (top 16), defBody (top 16), defScope (top 16), [], []⟩
def dd_scaled : He.DefD := ⟨("scaled", none), "scaled", "scaled", defArgs (top 17), defBody (top 17), defScope (top 17), [], []⟩
def dd_parted : He.DefD := ⟨("parted", none), "parted", "parted", defArgs (top 18), defBody (top 18), defScope (top 18), [], []⟩
def dd_below : He.DefD := ⟨("below", none), "below", "below", defArgs (top 19), defBody (top 19), defScope (top 19), [], []⟩
def dd_plus : He.DefD := ⟨("plus", none), "plus", "plus", defArgs (top 20), defBody (top 20), defScope (top 20), [], []⟩
def dd_minus : He.DefD := ⟨("minus", none), "minus", "minus", defArgs (top 21), defBody (top 21), defScope (top 21), [], []⟩
def dd_times : He.DefD := ⟨("times", none), "times", "times", defArgs (top 22), defBody (top 22), defScope (top 22), [], []⟩
def dd_share : He.DefD := ⟨("share", none), "share", "share", defArgs (top 23), defBody (top 23), defScope (top 23), [], []⟩
def dd_less : He.DefD := ⟨("less", none), "less", "less", defArgs (top 24), defBody (top 24), defScope (top 24), [], []⟩
def dd_law_pen : He.DefD := ⟨("_law_pen", none), "_law_pen", "_law_pen", defArgs (top 26), defBody (top 26), defScope (top 26), [], []⟩
def dd_law_draw : He.DefD := ⟨("_law_draw", none), "_law_draw", "_law_draw", defArgs (top 27), defBody (top 27), defScope (top 27), [], []⟩
def dd_law_pick : He.DefD := ⟨("_law_pick", none), "_law_pick", "_law_pick", defArgs (top 28), defBody (top 28), defScope (top 28), [], []⟩
def dd_law_gcd : He.DefD := ⟨("_law_gcd", none), "_law_gcd", "_law_gcd", defArgs (top 29), defBody (top 29), defScope (top 29), [], []⟩
def dd_law_q : He.DefD := ⟨("_law_q", none), "_law_q", "_law_q", defArgs (top 30), defBody (top 30), defScope (top 30), [], []⟩
def dd_law_plus : He.DefD := ⟨("_law_plus", none), "_law_plus", "_law_plus", defArgs (top 31), defBody (top 31), defScope (top 31), [], []⟩
def dd_law_times : He.DefD := ⟨("_law_times", none), "_law_times", "_law_times", defArgs (top 32), defBody (top 32), defScope (top 32), [], []⟩
def dd_law_less : He.DefD := ⟨("_law_less", none), "_law_less", "_law_less", defArgs (top 33), defBody (top 33), defScope (top 33), [], []⟩
def dd_law_minus : He.DefD := ⟨("_law_minus", none), "_law_minus", "_law_minus", defArgs (top 34), defBody (top 34), defScope (top 34), [], []⟩
def dd_law_share : He.DefD := ⟨("_law_share", none), "_law_share", "_law_share", defArgs (top 35), defBody (top 35), defScope (top 35), [], []⟩
def dd_law_drawn : He.DefD := ⟨("_law_drawn", none), "_law_drawn", "_law_drawn", defArgs (top 36), defBody (top 36), defScope (top 36), [], []⟩
def dd_law_handed : He.DefD := ⟨("_law_handed", none), "_law_handed", "_law_handed", defArgs (top 37), defBody (top 37), defScope (top 37), [], []⟩
def dd_law_fault : He.DefD := ⟨("_law_fault", none), "_law_fault", "_law_fault", defArgs (top 38), defBody (top 38), defScope (top 38), [], []⟩
def dd_law_are_due : He.DefD := ⟨("_law_are_due", none), "_law_are_due", "_law_are_due", defArgs (top 39), defBody (top 39), defScope (top 39), [], []⟩
def dd_law : He.DefD := ⟨("law", none), "law", "law", defArgs (top 40), defBody (top 40), defScope (top 40), [], []⟩
def dd_BadNumber_init : He.DefD := ⟨("BadNumber", some "__init__"), "__init__", "BadNumber.__init__", defArgs (meth 3 0), defBody (meth 3 0), defScope (meth 3 0), [], []⟩
def dd_BadText_init : He.DefD := ⟨("BadText", some "__init__"), "__init__", "BadText.__init__", defArgs (meth 4 0), defBody (meth 4 0), defScope (meth 4 0), [], []⟩
def dd_BadRow_init : He.DefD := ⟨("BadRow", some "__init__"), "__init__", "BadRow.__init__", defArgs (meth 5 0), defBody (meth 5 0), defScope (meth 5 0), [], []⟩
def dd_Unlike_init : He.DefD := ⟨("Unlike", some "__init__"), "__init__", "Unlike.__init__", defArgs (meth 6 0), defBody (meth 6 0), defScope (meth 6 0), [], []⟩
def dd_TooMany_init : He.DefD := ⟨("TooMany", some "__init__"), "__init__", "TooMany.__init__", defArgs (meth 7 0), defBody (meth 7 0), defScope (meth 7 0), [], []⟩
def fn0 : List He.DefD := [dd_is_whole, dd_is_pair, dd_is_ratio, dd_lowest, dd_told, dd_summed, dd_lessened, dd_scaled, dd_parted, dd_below, dd_plus, dd_minus, dd_times, dd_share, dd_less, dd_law_pen, dd_law_draw, dd_law_pick, dd_law_gcd, dd_law_q, dd_law_plus, dd_law_times, dd_law_less, dd_law_minus, dd_law_share, dd_law_drawn, dd_law_handed, dd_law_fault, dd_law_are_due, dd_law]
def fn1 : List He.DefD := [dd_BadNumber_init, dd_BadText_init, dd_BadRow_init, dd_Unlike_init, dd_TooMany_init]
def fn : List He.DefD := fn0 ++ fn1
def gloN0 : List Str := ["is_whole", "is_pair", "is_ratio", "lowest", "told", "summed", "lessened", "scaled", "parted", "below", "plus", "minus"]
def gloN1 : List Str := ["times", "share", "less", "_law_pen", "_law_draw", "_law_pick", "_law_gcd", "_law_q", "_law_plus", "_law_times", "_law_less", "_law_minus"]
def gloN2 : List Str := ["_law_share", "_law_drawn", "_law_handed", "_law_fault", "_law_are_due", "law", "LoanError", "BadNumber", "BadText", "BadRow", "Unlike", "TooMany"]
def gloN : List Str := gloN0 ++ gloN1 ++ gloN2
abbrev fa : List He.Fa := VL.faOf gloN
def errT : List (Str × List Str) := [("BadNumber", ["what", "number"]), ("BadText", ["line", "column"]), ("BadRow", ["row"]), ("Unlike", ["what"]), ("TooMany", ["what", "many", "limit"])]
abbrev exK : PySem.W.Frag → Bool := VL.exOf errT
abbrev tf : List He.Defn := [("law", none)]
abbrev RR : PySem.W.OpenRow := PySem.W.OpenLaw.row PySem.Challenge.rw_loanpapers_k02_ratios
abbrev hk : PySem.W.Hook := VL.hookV 5 fa fn tf exK
def ob (s : PySem.W.SharedT) : He.AlD × Bool := VL.obsV 5 fa fn tf exK (HandSHeadRun.getT s)
theorem ob_eq (s : PySem.W.SharedT) : ob s = hk.obs s.abs := VL.obsV_eq (HandSHeadRun.getT_eq s)
def loose0 : List Str := ["LoanError", "BadNumber", "BadText", "BadRow", "Unlike", "TooMany", "is_whole", "is_pair", "is_ratio", "lowest", "told", "summed"]
def loose1 : List Str := ["lessened", "scaled", "parted", "below", "plus", "minus", "times", "share", "less", "_law_pen", "_law_draw", "_law_pick"]
def loose2 : List Str := ["_law_gcd", "_law_q", "_law_plus", "_law_times", "_law_less", "_law_minus", "_law_share", "_law_drawn", "_law_handed", "_law_fault", "_law_are_due"]
def loose : List Str := loose0 ++ loose1 ++ loose2
theorem run (w : World) : HandSHeadRun.RunEqI RR (PySem.W.view RR.prog [0, 40]) hk ob 4000 loose w := by
  unfold HandSHeadRun.RunEqI
  kernel_rfl
end K02
end
-- DF02
section
set_option Elab.async false
set_option linter.all false
set_option maxRecDepth 100000
set_option maxHeartbeats 4000000
namespace K02
open PySem PySem.Spec PyProof.Rows VL
open L2 hiding St
open LB
def drawPos : List Pos := [⟨87, 4, 87, 7⟩, ⟨87, 8, 87, 15⟩, ⟨87, 4, 87, 16⟩, ⟨87, 19, 87, 22⟩, ⟨87, 23, 87, 30⟩, ⟨87, 19, 87, 31⟩, ⟨87, 34, 87, 35⟩, ⟨87, 19, 87, 35⟩, ⟨87, 4, 87, 35⟩, ⟨88, 7, 88, 10⟩, ⟨88, 11, 88, 19⟩, ⟨88, 7, 88, 20⟩, ⟨88, 24, 88, 25⟩, ⟨88, 7, 88, 25⟩, ⟨88, 30, 88, 33⟩, ⟨88, 34, 88, 38⟩, ⟨88, 30, 88, 39⟩, ⟨88, 42, 88, 45⟩, ⟨88, 46, 88, 49⟩, ⟨88, 50, 88, 57⟩, ⟨88, 46, 88, 58⟩, ⟨88, 42, 88, 59⟩, ⟨88, 30, 88, 59⟩, ⟨88, 7, 88, 59⟩, ⟨89, 8, 89, 12⟩, ⟨89, 15, 89, 18⟩, ⟨89, 19, 89, 26⟩, ⟨89, 15, 89, 27⟩, ⟨89, 28, 89, 31⟩, ⟨89, 32, 89, 36⟩, ⟨89, 28, 89, 37⟩, ⟨89, 15, 89, 38⟩, ⟨89, 8, 89, 38⟩, ⟨90, 8, 90, 11⟩, ⟨90, 12, 90, 16⟩, ⟨90, 8, 90, 17⟩, ⟨90, 20, 90, 23⟩, ⟨90, 24, 90, 28⟩, ⟨90, 20, 90, 29⟩, ⟨90, 32, 90, 33⟩, ⟨90, 20, 90, 33⟩, ⟨90, 8, 90, 33⟩, ⟨91, 11, 91, 15⟩, ⟨91, 19, 91, 21⟩, ⟨91, 25, 91, 27⟩, ⟨91, 19, 91, 27⟩, ⟨91, 11, 91, 27⟩, ⟨92, 12, 92, 15⟩, ⟨92, 16, 92, 24⟩, ⟨92, 12, 92, 25⟩, ⟨92, 28, 92, 32⟩, ⟨92, 35, 92, 37⟩, ⟨92, 41, 92, 43⟩, ⟨92, 35, 92, 43⟩, ⟨92, 28, 92, 43⟩, ⟨92, 12, 92, 43⟩, ⟨94, 12, 94, 15⟩, ⟨94, 16, 94, 22⟩, ⟨94, 12, 94, 23⟩, ⟨94, 26, 94, 29⟩, ⟨94, 30, 94, 33⟩, ⟨94, 34, 94, 40⟩, ⟨94, 30, 94, 41⟩, ⟨94, 44, 94, 49⟩, ⟨94, 30, 94, 49⟩, ⟨94, 52, 94, 56⟩, ⟨94, 30, 94, 56⟩, ⟨94, 26, 94, 57⟩, ⟨94, 60, 94, 70⟩, ⟨94, 26, 94, 70⟩, ⟨94, 12, 94, 70⟩, ⟨91, 8, 94, 70⟩, ⟨88, 4, 94, 70⟩, ⟨95, 7, 95, 10⟩, ⟨95, 11, 95, 19⟩, ⟨95, 7, 95, 20⟩, ⟨95, 23, 95, 24⟩, ⟨95, 7, 95, 24⟩, ⟨96, 8, 96, 13⟩, ⟨96, 16, 96, 19⟩, ⟨96, 20, 96, 23⟩, ⟨96, 24, 96, 32⟩, ⟨96, 20, 96, 33⟩, ⟨96, 16, 96, 34⟩, ⟨96, 37, 96, 41⟩, ⟨96, 16, 96, 41⟩, ⟨96, 8, 96, 41⟩, ⟨97, 8, 97, 11⟩, ⟨97, 12, 97, 20⟩, ⟨97, 8, 97, 21⟩, ⟨97, 24, 97, 27⟩, ⟨97, 28, 97, 36⟩, ⟨97, 24, 97, 37⟩, ⟨97, 41, 97, 45⟩, ⟨97, 24, 97, 45⟩, ⟨97, 8, 97, 45⟩, ⟨98, 15, 98, 20⟩, ⟨98, 8, 98, 20⟩, ⟨95, 4, 98, 20⟩, ⟨99, 4, 99, 9⟩, ⟨99, 12, 99, 15⟩, ⟨99, 16, 99, 22⟩, ⟨99, 12, 99, 23⟩, ⟨99, 26, 99, 29⟩, ⟨99, 30, 99, 37⟩, ⟨99, 26, 99, 38⟩, ⟨99, 41, 99, 45⟩, ⟨99, 26, 99, 45⟩, ⟨99, 12, 99, 45⟩, ⟨99, 48, 99, 51⟩, ⟨99, 12, 99, 51⟩, ⟨99, 4, 99, 51⟩, ⟨100, 11, 100, 14⟩, ⟨100, 15, 100, 20⟩, ⟨100, 24, 100, 26⟩, ⟨100, 15, 100, 26⟩, ⟨100, 29, 100, 48⟩, ⟨100, 15, 100, 48⟩, ⟨100, 11, 100, 49⟩, ⟨100, 53, 100, 57⟩, ⟨100, 11, 100, 57⟩, ⟨100, 60, 100, 64⟩, ⟨100, 11, 100, 64⟩, ⟨100, 4, 100, 64⟩]
def lts : List (E × List Str) := [(.call "told" m_told [.var 0], ["bad"]),
  (.call "plus" m_plus [.var 0, .var 1], ["bad", "odd"]),
  (.call "minus" m_minus [.lit (.int 1), .var 0], ["bad"]),
  (.call "times" m_times [.var 0, .var 1], ["odd", "bad"]),
  (.call "less" m_less [.tup [.lit (.int 1), .lit (.int 2)], .var 0], ["bad"]),
  (.call "share" m_share [.var 0, .lit (.int 0)], ["bad"]),
  (.call "share" m_share [.lit (.int 1), .var 0], ["bad"]),
  (.call "share" m_share [.lit (.int 3), .var 0], ["zero"])]
def tab_law_fault : List Tell := [("BadText", "text", ["line", "column"]), ("BadNumber", "number", ["what", "number"]), ("BadRow", "row", ["row"]), ("TooMany", "many", ["what", "many", "limit"]), ("Unlike", "unlike", ["what"])]
abbrev m_law_fault : List D → M R := faultM tab_law_fault (ltOf lts)
def N_law_are_due : List Str := ["tries", "action", "due"]
def b_law_are_due : List S := [.ret (.bi .all (.comp (.cmp .Eq (.bi .repr (.call "_law_fault" m_law_fault [.var 1]) none) (.bi .repr (.var 2) none)) (.tup [1, 2]) .seq [.var 0] none [("action", 1), ("due", 2)]) none)]
abbrev m_law_are_due : List D → M R := defM 3 1 b_law_are_due
def N_law : List Str := ["script", "pen", "lap", "bad", "tries", "due", "odd", "zero", "one", "two", "a", "b"]
def b_law : List S := [.forS (.var 2) .rng [.lit (.int 6)] [.frz 1, .par [8, 9] [.callC "_law_drawn" m_law_drawn [.var 1, .callC "_law_pick" m_law_pick [.var 1, .lst [.lit (.int 4), .lit (.int 99999)]] [] []] [] [], .callC "_law_drawn" m_law_drawn [.var 1, .lit (.int 9)] [] []], .frz 1, .ite (.cmp .Eq (.callC "_law_draw" m_law_draw [.var 1, .lit (.int 3)] [] []) (.lit (.int 0))) [.set 8 (.callC "_law_q" m_law_q [.bin .Sub (.bin .Mult (.idx (.var 8) (.lit (.int 0))) (.lit (.int 5))) (.lit (.int 3)), .lit (.int 999959)] [] [])] [], .frz 1, .par [10, 11] [.callC "_law_handed" m_law_handed [.var 1, .var 8] [] [], .callC "_law_handed" m_law_handed [.var 1, .var 9] [] []], .set 5 (.lst [.var 8, .callC "_law_plus" m_law_plus [.var 8, .var 9] [] [], .callC "_law_minus" m_law_minus [.var 8, .var 9] [] [], .callC "_law_times" m_law_times [.var 8, .var 9] [] [], .callC "_law_less" m_law_less [.var 8, .var 9] [] []]), .ite (.cmp .NotEq (.bi .repr (.lst [.callC "told" m_told [.var 10] [] [], .callC "plus" m_plus [.var 10, .var 11] [] [], .callC "minus" m_minus [.var 10, .var 11] [] [], .callC "times" m_times [.var 10, .var 11] [] [], .callC "less" m_less [.var 10, .var 11] [] []]) none) (.bi .repr (.var 5) none)) [.ret (.lit (.bl false))] [], .ite (.cmp .NotEq (.bi .repr (.callC "is_ratio" m_is_ratio [.var 10] [] []) none) (.bi .repr (.not (.isi (.var 10) [.ty "list"])) none)) [.ret (.lit (.bl false))] [], .ite (.and [.cmp .NotEq (.idx (.var 9) (.lit (.int 0))) (.lit (.int 0)), .cmp .NotEq (.bi .repr (.callC "share" m_share [.var 10, .var 11] [] []) none) (.bi .repr (.callC "_law_share" m_law_share [.var 8, .var 9] [] []) none)]) [.ret (.lit (.bl false))] []], .frz 1, .set 3 (.callC "_law_pick" m_law_pick [.var 1, .lst [.lit (.non), .lit (.str "1"), .tup [.lit (.int 1)], .tup [.lit (.int 1), .lit (.int 0)], .tup [.lit (.int 1), .neg (.lit (.int 2))], .tup [.lit (.bl true), .lit (.int 2)], .tup [.lit (.int 1), .lit (.bl true)], .lit (.bl true), .tup [.lit (.int 1), .lit (.int 2), .lit (.int 3)], .lst [], .dct [] []]] [] []), .frz 1, .asgs [.var 6, .var 7] (.tup [.callC "_law_pick" m_law_pick [.var 1, .lst [.lit (.str "x"), .tup [.lit (.int 0), .lit (.int 0)], .lit (.non)]] [] [], .callC "_law_pick" m_law_pick [.var 1, .lst [.lit (.int 0), .tup [.lit (.int 0), .lit (.int 6)]]] [] []]), .set 4 (.lst [.tup [.lam 0, .tup [.lit (.str "row"), .var 3]]]), .app 4 (.tup [.lam 1, .tup [.lit (.str "row"), .var 3]]), .app 4 (.tup [.lam 2, .tup [.lit (.str "row"), .var 3]]), .app 4 (.tup [.lam 3, .tup [.lit (.str "row"), .var 6]]), .app 4 (.tup [.lam 4, .tup [.lit (.str "row"), .var 3]]), .app 4 (.tup [.lam 5, .tup [.lit (.str "row"), .var 3]]), .app 4 (.tup [.lam 6, .tup [.lit (.str "row"), .var 3]]), .app 4 (.tup [.lam 7, .tup [.lit (.str "number"), .lit (.str "share"), .lit (.int 0)]]), .frz 4, .ret (.and [.cmp .Is (.callC "is_ratio" m_is_ratio [.var 3] [] []) (.lit (.bl false)), .callC "_law_are_due" m_law_are_due [.var 4] [("bad", 3), ("odd", 6), ("zero", 7)] [0, 1, 2, 3, 4, 5, 6, 7]])]
def lawSt : Stmt := (dd_law.body).getD 0 (.Pass ⟨0, 0, 0, 0⟩)
def lawRest : List Stmt := dd_law.body.drop 1
def pr0 : Pr := { flds := [], ins := [], gcd := true }
def prL : Pr := { flds := [], ins := [], gcd := true, mode := 2, lam := lamOf lawRest }
theorem f_BadNumber {Y : Wo} {Θ : Th} (h : Hd Y Θ pr0 fn gloN errT) : MkOk Y Θ 2 "BadNumber" mk_BadNumber := by
  intro X N sc W e fs0 a as p0 pos Θ'
  exact h.err (k := 0) (d := dd_BadNumber_init) (fs := ["what", "number"]) (List.mem_of_getElem? (i := 30) rfl) ⟨rfl, rfl, rfl, rfl⟩ (List.mem_of_getElem? (i := 0) rfl) (by decide +kernel) (fun _ _ _ _ _ _ us hl => match us, hl with | [_, _, _], _ => rfl) (by decide +kernel) (by decide +kernel) (by decide +kernel) (by decide +kernel) (by decide)
theorem f_BadText {Y : Wo} {Θ : Th} (h : Hd Y Θ pr0 fn gloN errT) : MkOk Y Θ 2 "BadText" mk_BadText := by
  intro X N sc W e fs0 a as p0 pos Θ'
  exact h.err (k := 0) (d := dd_BadText_init) (fs := ["line", "column"]) (List.mem_of_getElem? (i := 31) rfl) ⟨rfl, rfl, rfl, rfl⟩ (List.mem_of_getElem? (i := 1) rfl) (by decide +kernel) (fun _ _ _ _ _ _ us hl => match us, hl with | [_, _, _], _ => rfl) (by decide +kernel) (by decide +kernel) (by decide +kernel) (by decide +kernel) (by decide)
theorem f_BadRow {Y : Wo} {Θ : Th} (h : Hd Y Θ pr0 fn gloN errT) : MkOk Y Θ 2 "BadRow" mk_BadRow := by
  intro X N sc W e fs0 a as p0 pos Θ'
  exact h.err (k := 0) (d := dd_BadRow_init) (fs := ["row"]) (List.mem_of_getElem? (i := 32) rfl) ⟨rfl, rfl, rfl, rfl⟩ (List.mem_of_getElem? (i := 2) rfl) (by decide +kernel) (fun _ _ _ _ _ _ us hl => match us, hl with | [_, _], _ => rfl) (by decide +kernel) (by decide +kernel) (by decide +kernel) (by decide +kernel) (by decide)
theorem f_Unlike {Y : Wo} {Θ : Th} (h : Hd Y Θ pr0 fn gloN errT) : MkOk Y Θ 2 "Unlike" mk_Unlike := by
  intro X N sc W e fs0 a as p0 pos Θ'
  exact h.err (k := 0) (d := dd_Unlike_init) (fs := ["what"]) (List.mem_of_getElem? (i := 33) rfl) ⟨rfl, rfl, rfl, rfl⟩ (List.mem_of_getElem? (i := 3) rfl) (by decide +kernel) (fun _ _ _ _ _ _ us hl => match us, hl with | [_, _], _ => rfl) (by decide +kernel) (by decide +kernel) (by decide +kernel) (by decide +kernel) (by decide)
theorem f_TooMany {Y : Wo} {Θ : Th} (h : Hd Y Θ pr0 fn gloN errT) : MkOk Y Θ 2 "TooMany" mk_TooMany := by
  intro X N sc W e fs0 a as p0 pos Θ'
  exact h.err (k := 0) (d := dd_TooMany_init) (fs := ["what", "many", "limit"]) (List.mem_of_getElem? (i := 34) rfl) ⟨rfl, rfl, rfl, rfl⟩ (List.mem_of_getElem? (i := 4) rfl) (by decide +kernel) (fun _ _ _ _ _ _ us hl => match us, hl with | [_, _, _, _], _ => rfl) (by decide +kernel) (by decide +kernel) (by decide +kernel) (by decide +kernel) (by decide)
theorem f_is_whole {Y : Wo} {Θ : Th} (h : Hd Y Θ pr0 fn gloN errT) : FnM Y Θ 1 "is_whole" m_is_whole := by
  exact h.fn (k := 0) (d := dd_is_whole) (N := N_is_whole) (ps := ["value"]) (List.mem_of_getElem? (i := 0) rfl) ⟨rfl, rfl, rfl⟩ (by decide +kernel) (by decide +kernel) (fun _ _ _ _ _ _ us hl => match us, hl with | [_], _ => rfl) (by decide +kernel) (by simp only [b_is_whole, CallsSs, CallsS, CallsOks, CallsOk, CallsOko, CallsP, CallsPs, and_self, true_and, and_true]; try trivial)
theorem f_is_pair {Y : Wo} {Θ : Th} (h : Hd Y Θ pr0 fn gloN errT) : FnM Y Θ 2 "is_pair" m_is_pair := by
  have h_is_whole : FnM Y Θ 1 "is_whole" m_is_whole := (f_is_whole h).mono (by decide)
  exact h.fn (k := 1) (d := dd_is_pair) (N := N_is_pair) (ps := ["value"]) (List.mem_of_getElem? (i := 1) rfl) ⟨rfl, rfl, rfl⟩ (by decide +kernel) (by decide +kernel) (fun _ _ _ _ _ _ us hl => match us, hl with | [_], _ => rfl) (by decide +kernel) (by simp only [b_is_pair, CallsSs, CallsS, CallsOks, CallsOk, CallsOko, CallsP, CallsPs, h_is_whole, and_self, true_and, and_true]; try trivial)
theorem f_is_ratio {Y : Wo} {Θ : Th} (h : Hd Y Θ pr0 fn gloN errT) : FnM Y Θ 3 "is_ratio" m_is_ratio := by
  have h_is_pair : FnM Y Θ 2 "is_pair" m_is_pair := (f_is_pair h).mono (by decide)
  have h_is_whole : FnM Y Θ 2 "is_whole" m_is_whole := (f_is_whole h).mono (by decide)
  exact h.fn (k := 2) (d := dd_is_ratio) (N := N_is_ratio) (ps := ["value"]) (List.mem_of_getElem? (i := 2) rfl) ⟨rfl, rfl, rfl⟩ (by decide +kernel) (by decide +kernel) (fun _ _ _ _ _ _ us hl => match us, hl with | [_], _ => rfl) (by decide +kernel) (by simp only [b_is_ratio, CallsSs, CallsS, CallsOks, CallsOk, CallsOko, CallsP, CallsPs, h_is_pair, h_is_whole, and_self, true_and, and_true]; try trivial)
theorem f_lowest {Y : Wo} {Θ : Th} (h : Hd Y Θ pr0 fn gloN errT) : FnM Y Θ 1 "lowest" m_lowest := by
  exact h.fn (k := 0) (d := dd_lowest) (N := N_lowest) (ps := ["top", "bottom"]) (List.mem_of_getElem? (i := 3) rfl) ⟨rfl, rfl, rfl⟩ (by decide +kernel) (by decide +kernel) (fun _ _ _ _ _ _ us hl => match us, hl with | [_, _], _ => rfl) (by decide +kernel) (by simp only [b_lowest, CallsSs, CallsS, CallsOks, CallsOk, CallsOko, CallsP, CallsPs, and_self, true_and, and_true]; try trivial)
theorem f_told {Y : Wo} {Θ : Th} (h : Hd Y Θ pr0 fn gloN errT) : FnM Y Θ 3 "told" m_told := by
  have h_is_pair : FnM Y Θ 2 "is_pair" m_is_pair := (f_is_pair h).mono (by decide)
  have h_is_whole : FnM Y Θ 2 "is_whole" m_is_whole := (f_is_whole h).mono (by decide)
  have h_lowest : FnM Y Θ 2 "lowest" m_lowest := (f_lowest h).mono (by decide)
  have e_BadRow : MkOk Y Θ 2 "BadRow" mk_BadRow := @MkOk.mono Y Θ 2 2 _ _ (@f_BadRow Y Θ h) (by decide)
  exact h.fn (k := 2) (d := dd_told) (N := N_told) (ps := ["ratio"]) (List.mem_of_getElem? (i := 4) rfl) ⟨rfl, rfl, rfl⟩ (by decide +kernel) (by decide +kernel) (fun _ _ _ _ _ _ us hl => match us, hl with | [_], _ => rfl) (by decide +kernel) (by simp only [b_told, CallsSs, CallsS, CallsOks, CallsOk, CallsOko, CallsP, CallsPs, h_is_pair, h_is_whole, h_lowest, e_BadRow, and_self, true_and, and_true]; try trivial)
theorem f_summed {Y : Wo} {Θ : Th} (h : Hd Y Θ pr0 fn gloN errT) : FnM Y Θ 2 "summed" m_summed := by
  have h_lowest : FnM Y Θ 1 "lowest" m_lowest := (f_lowest h).mono (by decide)
  exact h.fn (k := 1) (d := dd_summed) (N := N_summed) (ps := ["one", "other"]) (List.mem_of_getElem? (i := 5) rfl) ⟨rfl, rfl, rfl⟩ (by decide +kernel) (by decide +kernel) (fun _ _ _ _ _ _ us hl => match us, hl with | [_, _], _ => rfl) (by decide +kernel) (by simp only [b_summed, CallsSs, CallsS, CallsOks, CallsOk, CallsOko, CallsP, CallsPs, h_lowest, and_self, true_and, and_true]; try trivial)
theorem f_lessened {Y : Wo} {Θ : Th} (h : Hd Y Θ pr0 fn gloN errT) : FnM Y Θ 2 "lessened" m_lessened := by
  have h_lowest : FnM Y Θ 1 "lowest" m_lowest := (f_lowest h).mono (by decide)
  exact h.fn (k := 1) (d := dd_lessened) (N := N_lessened) (ps := ["one", "other"]) (List.mem_of_getElem? (i := 6) rfl) ⟨rfl, rfl, rfl⟩ (by decide +kernel) (by decide +kernel) (fun _ _ _ _ _ _ us hl => match us, hl with | [_, _], _ => rfl) (by decide +kernel) (by simp only [b_lessened, CallsSs, CallsS, CallsOks, CallsOk, CallsOko, CallsP, CallsPs, h_lowest, and_self, true_and, and_true]; try trivial)
theorem f_scaled {Y : Wo} {Θ : Th} (h : Hd Y Θ pr0 fn gloN errT) : FnM Y Θ 2 "scaled" m_scaled := by
  have h_lowest : FnM Y Θ 1 "lowest" m_lowest := (f_lowest h).mono (by decide)
  exact h.fn (k := 1) (d := dd_scaled) (N := N_scaled) (ps := ["one", "other"]) (List.mem_of_getElem? (i := 7) rfl) ⟨rfl, rfl, rfl⟩ (by decide +kernel) (by decide +kernel) (fun _ _ _ _ _ _ us hl => match us, hl with | [_, _], _ => rfl) (by decide +kernel) (by simp only [b_scaled, CallsSs, CallsS, CallsOks, CallsOk, CallsOko, CallsP, CallsPs, h_lowest, and_self, true_and, and_true]; try trivial)
theorem f_parted {Y : Wo} {Θ : Th} (h : Hd Y Θ pr0 fn gloN errT) : FnM Y Θ 2 "parted" m_parted := by
  have h_lowest : FnM Y Θ 1 "lowest" m_lowest := (f_lowest h).mono (by decide)
  exact h.fn (k := 1) (d := dd_parted) (N := N_parted) (ps := ["one", "other"]) (List.mem_of_getElem? (i := 8) rfl) ⟨rfl, rfl, rfl⟩ (by decide +kernel) (by decide +kernel) (fun _ _ _ _ _ _ us hl => match us, hl with | [_, _], _ => rfl) (by decide +kernel) (by simp only [b_parted, CallsSs, CallsS, CallsOks, CallsOk, CallsOko, CallsP, CallsPs, h_lowest, and_self, true_and, and_true]; try trivial)
theorem f_below {Y : Wo} {Θ : Th} (h : Hd Y Θ pr0 fn gloN errT) : FnM Y Θ 1 "below" m_below := by
  exact h.fn (k := 0) (d := dd_below) (N := N_below) (ps := ["one", "other"]) (List.mem_of_getElem? (i := 9) rfl) ⟨rfl, rfl, rfl⟩ (by decide +kernel) (by decide +kernel) (fun _ _ _ _ _ _ us hl => match us, hl with | [_, _], _ => rfl) (by decide +kernel) (by simp only [b_below, CallsSs, CallsS, CallsOks, CallsOk, CallsOko, CallsP, CallsPs, and_self, true_and, and_true]; try trivial)
theorem f_plus {Y : Wo} {Θ : Th} (h : Hd Y Θ pr0 fn gloN errT) : FnM Y Θ 4 "plus" m_plus := by
  have h_summed : FnM Y Θ 3 "summed" m_summed := (f_summed h).mono (by decide)
  have h_told : FnM Y Θ 3 "told" m_told := (f_told h).mono (by decide)
  exact h.fn (k := 3) (d := dd_plus) (N := N_plus) (ps := ["one", "other"]) (List.mem_of_getElem? (i := 10) rfl) ⟨rfl, rfl, rfl⟩ (by decide +kernel) (by decide +kernel) (fun _ _ _ _ _ _ us hl => match us, hl with | [_, _], _ => rfl) (by decide +kernel) (by simp only [b_plus, CallsSs, CallsS, CallsOks, CallsOk, CallsOko, CallsP, CallsPs, h_summed, h_told, and_self, true_and, and_true]; try trivial)
theorem f_minus {Y : Wo} {Θ : Th} (h : Hd Y Θ pr0 fn gloN errT) : FnM Y Θ 4 "minus" m_minus := by
  have h_lessened : FnM Y Θ 3 "lessened" m_lessened := (f_lessened h).mono (by decide)
  have h_told : FnM Y Θ 3 "told" m_told := (f_told h).mono (by decide)
  exact h.fn (k := 3) (d := dd_minus) (N := N_minus) (ps := ["one", "other"]) (List.mem_of_getElem? (i := 11) rfl) ⟨rfl, rfl, rfl⟩ (by decide +kernel) (by decide +kernel) (fun _ _ _ _ _ _ us hl => match us, hl with | [_, _], _ => rfl) (by decide +kernel) (by simp only [b_minus, CallsSs, CallsS, CallsOks, CallsOk, CallsOko, CallsP, CallsPs, h_lessened, h_told, and_self, true_and, and_true]; try trivial)
theorem f_times {Y : Wo} {Θ : Th} (h : Hd Y Θ pr0 fn gloN errT) : FnM Y Θ 4 "times" m_times := by
  have h_scaled : FnM Y Θ 3 "scaled" m_scaled := (f_scaled h).mono (by decide)
  have h_told : FnM Y Θ 3 "told" m_told := (f_told h).mono (by decide)
  exact h.fn (k := 3) (d := dd_times) (N := N_times) (ps := ["one", "other"]) (List.mem_of_getElem? (i := 12) rfl) ⟨rfl, rfl, rfl⟩ (by decide +kernel) (by decide +kernel) (fun _ _ _ _ _ _ us hl => match us, hl with | [_, _], _ => rfl) (by decide +kernel) (by simp only [b_times, CallsSs, CallsS, CallsOks, CallsOk, CallsOko, CallsP, CallsPs, h_scaled, h_told, and_self, true_and, and_true]; try trivial)
theorem f_share {Y : Wo} {Θ : Th} (h : Hd Y Θ pr0 fn gloN errT) : FnM Y Θ 4 "share" m_share := by
  have h_parted : FnM Y Θ 3 "parted" m_parted := (f_parted h).mono (by decide)
  have h_told : FnM Y Θ 3 "told" m_told := (f_told h).mono (by decide)
  have e_BadNumber : MkOk Y Θ 3 "BadNumber" mk_BadNumber := @MkOk.mono Y Θ 2 3 _ _ (@f_BadNumber Y Θ h) (by decide)
  exact h.fn (k := 3) (d := dd_share) (N := N_share) (ps := ["one", "other"]) (List.mem_of_getElem? (i := 13) rfl) ⟨rfl, rfl, rfl⟩ (by decide +kernel) (by decide +kernel) (fun _ _ _ _ _ _ us hl => match us, hl with | [_, _], _ => rfl) (by decide +kernel) (by simp only [b_share, CallsSs, CallsS, CallsOks, CallsOk, CallsOko, CallsP, CallsPs, h_parted, h_told, e_BadNumber, and_self, true_and, and_true]; try trivial)
theorem f_less {Y : Wo} {Θ : Th} (h : Hd Y Θ pr0 fn gloN errT) : FnM Y Θ 4 "less" m_less := by
  have h_below : FnM Y Θ 3 "below" m_below := (f_below h).mono (by decide)
  have h_told : FnM Y Θ 3 "told" m_told := (f_told h).mono (by decide)
  exact h.fn (k := 3) (d := dd_less) (N := N_less) (ps := ["one", "other"]) (List.mem_of_getElem? (i := 14) rfl) ⟨rfl, rfl, rfl⟩ (by decide +kernel) (by decide +kernel) (fun _ _ _ _ _ _ us hl => match us, hl with | [_, _], _ => rfl) (by decide +kernel) (by simp only [b_less, CallsSs, CallsS, CallsOks, CallsOk, CallsOko, CallsP, CallsPs, h_below, h_told, and_self, true_and, and_true]; try trivial)
theorem f_law_pen {Y : Wo} {Θ : Th} (h : Hd Y Θ pr0 fn gloN errT) : Cal Y 1 "_law_pen" (spPen Y.K) := h.pen (k := 0) (d := dd_law_pen) (List.mem_of_getElem? (i := 15) rfl) ⟨rfl, rfl, rfl, rfl, rfl⟩ (by decide +kernel) (by decide +kernel) (fun _ _ _ _ _ _ us hl => match us, hl with | [_], _ => rfl) (by decide +kernel) (by decide +kernel) (by decide +kernel) (by decide +kernel)
theorem f_law_draw {Y : Wo} {Θ : Th} (h : Hd Y Θ pr0 fn gloN errT) : FnM Y Θ 1 "_law_draw" m_law_draw := h.draw (k := 0) (d := dd_law_draw) (q := fun n => drawPos.getD n ⟨0, 0, 0, 0⟩) (List.mem_of_getElem? (i := 16) rfl) ⟨rfl, rfl, rfl, rfl, rfl⟩ (by decide +kernel) (by decide +kernel) (fun _ _ _ _ _ _ us hl => match us, hl with | [_, _], _ => rfl) (by kernel_rfl) (by decide +kernel) (by decide +kernel) (by decide +kernel)
theorem f_law_pick {Y : Wo} {Θ : Th} (h : Hd Y Θ pr0 fn gloN errT) : FnM Y Θ 2 "_law_pick" m_law_pick := by
  have h_law_draw : FnM Y Θ 1 "_law_draw" m_law_draw := (f_law_draw h).mono (by decide)
  exact h.fn (k := 1) (d := dd_law_pick) (N := N_law_pick) (ps := ["pen", "some"]) (List.mem_of_getElem? (i := 17) rfl) ⟨rfl, rfl, rfl⟩ (by decide +kernel) (by decide +kernel) (fun _ _ _ _ _ _ us hl => match us, hl with | [_, _], _ => rfl) (by decide +kernel) (by simp only [b_law_pick, CallsSs, CallsS, CallsOks, CallsOk, CallsOko, CallsP, CallsPs, h_law_draw, and_self, true_and, and_true]; try trivial)
theorem f_law_gcd {Y : Wo} {Θ : Th} (h : Hd Y Θ pr0 fn gloN errT) : FnM Y Θ 1 "_law_gcd" m_law_gcd := by
  exact h.fn (k := 0) (d := dd_law_gcd) (N := N_law_gcd) (ps := ["one", "two"]) (List.mem_of_getElem? (i := 18) rfl) ⟨rfl, rfl, rfl⟩ (by decide +kernel) (by decide +kernel) (fun _ _ _ _ _ _ us hl => match us, hl with | [_, _], _ => rfl) (by decide +kernel) (by simp only [b_law_gcd, CallsSs, CallsS, CallsOks, CallsOk, CallsOko, CallsP, CallsPs, and_self, true_and, and_true]; try trivial)
theorem f_law_q {Y : Wo} {Θ : Th} (h : Hd Y Θ pr0 fn gloN errT) : FnM Y Θ 2 "_law_q" m_law_q := by
  have h_law_gcd : FnM Y Θ 1 "_law_gcd" m_law_gcd := (f_law_gcd h).mono (by decide)
  exact h.fn (k := 1) (d := dd_law_q) (N := N_law_q) (ps := ["top", "bottom"]) (List.mem_of_getElem? (i := 19) rfl) ⟨rfl, rfl, rfl⟩ (by decide +kernel) (by decide +kernel) (fun _ _ _ _ _ _ us hl => match us, hl with | [_, _], _ => rfl) (by decide +kernel) (by simp only [b_law_q, CallsSs, CallsS, CallsOks, CallsOk, CallsOko, CallsP, CallsPs, h_law_gcd, and_self, true_and, and_true]; try trivial)
theorem f_law_plus {Y : Wo} {Θ : Th} (h : Hd Y Θ pr0 fn gloN errT) : FnM Y Θ 3 "_law_plus" m_law_plus := by
  have h_law_q : FnM Y Θ 2 "_law_q" m_law_q := (f_law_q h).mono (by decide)
  exact h.fn (k := 2) (d := dd_law_plus) (N := N_law_plus) (ps := ["one", "two"]) (List.mem_of_getElem? (i := 20) rfl) ⟨rfl, rfl, rfl⟩ (by decide +kernel) (by decide +kernel) (fun _ _ _ _ _ _ us hl => match us, hl with | [_, _], _ => rfl) (by decide +kernel) (by simp only [b_law_plus, CallsSs, CallsS, CallsOks, CallsOk, CallsOko, CallsP, CallsPs, h_law_q, and_self, true_and, and_true]; try trivial)
theorem f_law_times {Y : Wo} {Θ : Th} (h : Hd Y Θ pr0 fn gloN errT) : FnM Y Θ 3 "_law_times" m_law_times := by
  have h_law_q : FnM Y Θ 2 "_law_q" m_law_q := (f_law_q h).mono (by decide)
  exact h.fn (k := 2) (d := dd_law_times) (N := N_law_times) (ps := ["one", "two"]) (List.mem_of_getElem? (i := 21) rfl) ⟨rfl, rfl, rfl⟩ (by decide +kernel) (by decide +kernel) (fun _ _ _ _ _ _ us hl => match us, hl with | [_, _], _ => rfl) (by decide +kernel) (by simp only [b_law_times, CallsSs, CallsS, CallsOks, CallsOk, CallsOko, CallsP, CallsPs, h_law_q, and_self, true_and, and_true]; try trivial)
theorem f_law_less {Y : Wo} {Θ : Th} (h : Hd Y Θ pr0 fn gloN errT) : FnM Y Θ 1 "_law_less" m_law_less := by
  exact h.fn (k := 0) (d := dd_law_less) (N := N_law_less) (ps := ["one", "two"]) (List.mem_of_getElem? (i := 22) rfl) ⟨rfl, rfl, rfl⟩ (by decide +kernel) (by decide +kernel) (fun _ _ _ _ _ _ us hl => match us, hl with | [_, _], _ => rfl) (by decide +kernel) (by simp only [b_law_less, CallsSs, CallsS, CallsOks, CallsOk, CallsOko, CallsP, CallsPs, and_self, true_and, and_true]; try trivial)
theorem f_law_minus {Y : Wo} {Θ : Th} (h : Hd Y Θ pr0 fn gloN errT) : FnM Y Θ 3 "_law_minus" m_law_minus := by
  have h_law_q : FnM Y Θ 2 "_law_q" m_law_q := (f_law_q h).mono (by decide)
  exact h.fn (k := 2) (d := dd_law_minus) (N := N_law_minus) (ps := ["one", "two"]) (List.mem_of_getElem? (i := 23) rfl) ⟨rfl, rfl, rfl⟩ (by decide +kernel) (by decide +kernel) (fun _ _ _ _ _ _ us hl => match us, hl with | [_, _], _ => rfl) (by decide +kernel) (by simp only [b_law_minus, CallsSs, CallsS, CallsOks, CallsOk, CallsOko, CallsP, CallsPs, h_law_q, and_self, true_and, and_true]; try trivial)
theorem f_law_share {Y : Wo} {Θ : Th} (h : Hd Y Θ pr0 fn gloN errT) : FnM Y Θ 3 "_law_share" m_law_share := by
  have h_law_q : FnM Y Θ 2 "_law_q" m_law_q := (f_law_q h).mono (by decide)
  exact h.fn (k := 2) (d := dd_law_share) (N := N_law_share) (ps := ["one", "two"]) (List.mem_of_getElem? (i := 24) rfl) ⟨rfl, rfl, rfl⟩ (by decide +kernel) (by decide +kernel) (fun _ _ _ _ _ _ us hl => match us, hl with | [_, _], _ => rfl) (by decide +kernel) (by simp only [b_law_share, CallsSs, CallsS, CallsOks, CallsOk, CallsOko, CallsP, CallsPs, h_law_q, and_self, true_and, and_true]; try trivial)
theorem f_law_drawn {Y : Wo} {Θ : Th} (h : Hd Y Θ pr0 fn gloN errT) : FnM Y Θ 3 "_law_drawn" m_law_drawn := by
  have h_law_draw : FnM Y Θ 2 "_law_draw" m_law_draw := (f_law_draw h).mono (by decide)
  have h_law_pick : FnM Y Θ 2 "_law_pick" m_law_pick := (f_law_pick h).mono (by decide)
  have h_law_q : FnM Y Θ 2 "_law_q" m_law_q := (f_law_q h).mono (by decide)
  exact h.fn (k := 2) (d := dd_law_drawn) (N := N_law_drawn) (ps := ["pen", "most"]) (List.mem_of_getElem? (i := 25) rfl) ⟨rfl, rfl, rfl⟩ (by decide +kernel) (by decide +kernel) (fun _ _ _ _ _ _ us hl => match us, hl with | [_, _], _ => rfl) (by decide +kernel) (by simp only [b_law_drawn, CallsSs, CallsS, CallsOks, CallsOk, CallsOko, CallsP, CallsPs, h_law_draw, h_law_pick, h_law_q, and_self, true_and, and_true]; try trivial)
theorem f_law_handed {Y : Wo} {Θ : Th} (h : Hd Y Θ pr0 fn gloN errT) : FnM Y Θ 3 "_law_handed" m_law_handed := by
  have h_law_draw : FnM Y Θ 2 "_law_draw" m_law_draw := (f_law_draw h).mono (by decide)
  have h_law_pick : FnM Y Θ 2 "_law_pick" m_law_pick := (f_law_pick h).mono (by decide)
  exact h.fn (k := 2) (d := dd_law_handed) (N := N_law_handed) (ps := ["pen", "ratio"]) (List.mem_of_getElem? (i := 26) rfl) ⟨rfl, rfl, rfl⟩ (by decide +kernel) (by decide +kernel) (fun _ _ _ _ _ _ us hl => match us, hl with | [_, _], _ => rfl) (by decide +kernel) (by simp only [b_law_handed, CallsSs, CallsS, CallsOks, CallsOk, CallsOko, CallsP, CallsPs, h_law_draw, h_law_pick, and_self, true_and, and_true]; try trivial)
theorem lts_ok {Y : Wo} {Θ : Th} (h : Hd Y Θ pr0 fn gloN errT) (hl : Θ.lam = lamOf lawRest) : LamsOk Y Θ 4 (ltOf lts) := by
  refine lams_ok (p := pr0) (ts := lamsSs 400 lawRest) h.pk (fun n => by rw [hl]; rfl) (by decide +kernel) ?_
  have h_less : FnM Y Θ 4 "less" m_less := (f_less h).mono (by decide)
  have h_minus : FnM Y Θ 4 "minus" m_minus := (f_minus h).mono (by decide)
  have h_plus : FnM Y Θ 4 "plus" m_plus := (f_plus h).mono (by decide)
  have h_share : FnM Y Θ 4 "share" m_share := (f_share h).mono (by decide)
  have h_times : FnM Y Θ 4 "times" m_times := (f_times h).mono (by decide)
  have h_told : FnM Y Θ 4 "told" m_told := (f_told h).mono (by decide)
  rw [h.eΘ]
  simp only [lts, List.forall_mem_cons, CallsSs, CallsS, CallsOks, CallsOk, CallsOko, CallsP, CallsPs, h_less, h_minus, h_plus, h_share, h_times, h_told, and_self, true_and, and_true]
  try simp
theorem f_law_fault {Y : Wo} {Θ : Th} (h : Hd Y Θ pr0 fn gloN errT) (hl : Θ.lam = lamOf lawRest) : FnM Y Θ 6 "_law_fault" m_law_fault := h.fault (k := 4) (d := dd_law_fault) (List.mem_of_getElem? (i := 27) rfl) ⟨rfl, rfl, rfl⟩ (by decide +kernel) (by decide +kernel) (fun _ _ _ _ _ _ us hl => match us, hl with | [_], _ => rfl) (by decide +kernel) (by decide +kernel) (by decide +kernel) (lts_ok h hl)
theorem f_law_are_due {Y : Wo} {Θ : Th} (h : Hd Y Θ pr0 fn gloN errT) (hl : Θ.lam = lamOf lawRest) : FnM Y Θ 7 "_law_are_due" m_law_are_due := by
  have h_law_fault : FnM Y Θ 6 "_law_fault" m_law_fault := (f_law_fault h hl).mono (by decide)
  exact h.fn (k := 6) (d := dd_law_are_due) (N := N_law_are_due) (ps := ["tries"]) (List.mem_of_getElem? (i := 28) rfl) ⟨rfl, rfl, rfl⟩ (by decide +kernel) (by decide +kernel) (fun _ _ _ _ _ _ us hl => match us, hl with | [_], _ => rfl) (by decide +kernel) (by simp only [b_law_are_due, CallsSs, CallsS, CallsOks, CallsOk, CallsOko, CallsP, CallsPs, h_law_fault, and_self, true_and, and_true]; try trivial)
theorem f_all (Y : Wo) (Θ : Th) (h : Hd Y Θ pr0 fn gloN errT) (hl : Θ.lam = prL.lam) : Cal Y 7 "_law_pen" (spPen Y.K) ∧ CallsSs Y Θ 7 b_law := by
  refine ⟨(f_law_pen h).mono (by decide), ?_⟩
  have h_law_are_due : FnM Y Θ 7 "_law_are_due" m_law_are_due := (f_law_are_due h hl).mono (by decide)
  have h_law_draw : FnM Y Θ 7 "_law_draw" m_law_draw := (f_law_draw h).mono (by decide)
  have h_law_drawn : FnM Y Θ 7 "_law_drawn" m_law_drawn := (f_law_drawn h).mono (by decide)
  have h_law_handed : FnM Y Θ 7 "_law_handed" m_law_handed := (f_law_handed h).mono (by decide)
  have h_law_less : FnM Y Θ 7 "_law_less" m_law_less := (f_law_less h).mono (by decide)
  have h_law_minus : FnM Y Θ 7 "_law_minus" m_law_minus := (f_law_minus h).mono (by decide)
  have h_law_pick : FnM Y Θ 7 "_law_pick" m_law_pick := (f_law_pick h).mono (by decide)
  have h_law_plus : FnM Y Θ 7 "_law_plus" m_law_plus := (f_law_plus h).mono (by decide)
  have h_law_q : FnM Y Θ 7 "_law_q" m_law_q := (f_law_q h).mono (by decide)
  have h_law_share : FnM Y Θ 7 "_law_share" m_law_share := (f_law_share h).mono (by decide)
  have h_law_times : FnM Y Θ 7 "_law_times" m_law_times := (f_law_times h).mono (by decide)
  have h_is_ratio : FnM Y Θ 7 "is_ratio" m_is_ratio := (f_is_ratio h).mono (by decide)
  have h_less : FnM Y Θ 7 "less" m_less := (f_less h).mono (by decide)
  have h_minus : FnM Y Θ 7 "minus" m_minus := (f_minus h).mono (by decide)
  have h_plus : FnM Y Θ 7 "plus" m_plus := (f_plus h).mono (by decide)
  have h_share : FnM Y Θ 7 "share" m_share := (f_share h).mono (by decide)
  have h_times : FnM Y Θ 7 "times" m_times := (f_times h).mono (by decide)
  have h_told : FnM Y Θ 7 "told" m_told := (f_told h).mono (by decide)
  simp only [b_law, CallsSs, CallsS, CallsOks, CallsOk, CallsOko, CallsP, CallsPs, h_law_are_due, h_law_draw, h_law_drawn, h_law_handed, h_law_less, h_law_minus, h_law_pick, h_law_plus, h_law_q, h_law_share, h_law_times, h_is_ratio, h_less, h_minus, h_plus, h_share, h_times, h_told, and_self, true_and, and_true]
  try trivial
theorem walk (rd : DefRec) {q : Program} {loose : List Str} {XP : (Str → Option Value) → Heap → Prop} (hdf : rd.params.defaults = []) (hnm : rd.name = "law") (plain : lawP N_law.length b_law) :
    PySem.W.WalkO q loose XP hk.says (PySem.Challenge.rw_loanpapers_k02_ratios).row.toRowW rd [] (fun f vs => PySem.call f vs) :=
  walk_law (l := PySem.Challenge.rw_loanpapers_k02_ratios) (n := 63) (k := 7) (p0 := pr0) (p := prL) (d := dd_law) (N := N_law) (ss := b_law) (st := lawSt) (rest := lawRest) (es := errT) rfl (by decide) hdf hnm ⟨rfl, by decide, by decide⟩ (fun _ h => h) (by decide +kernel) (by decide +kernel) ⟨rfl, rfl, rfl⟩ (fun _ _ _ _ _ _ _ => insOk_nil rfl)
    (List.mem_of_getElem? (i := 29) rfl) ⟨rfl, rfl, rfl, rfl, rfl⟩ (by decide +kernel) (by decide +kernel) (fun _ _ _ _ _ _ us hl => match us, hl with | [_], _ => rfl) (by kernel_rfl) ⟨rfl, rfl, rfl⟩ (by decide +kernel) (by decide +kernel) f_all plain
end K02
open PySem PySem.W PySem.Calls PyProof.Rows
theorem K02.holds_of (plain : VL.lawP K02.N_law.length K02.b_law) : PySem.Challenge.rw_loanpapers_k02_ratios.Holds := by
  w_on; o_law
  refine HandSHeadRun.head_imp (r := OpenLaw.row PySem.Challenge.rw_loanpapers_k02_ratios) (q := view (OpenLaw.row PySem.Challenge.rw_loanpapers_k02_ratios).prog [0, 40]) (H := K02.hk) (ob := K02.ob) (M := 4000) (loose := K02.loose)
    (d := HandSHeadRun.topDef (OpenLaw.row PySem.Challenge.rw_loanpapers_k02_ratios).prog 40) (kwd := []) K02.ob_eq K02.run
    (by kernel_rfl) (by kernel_rfl) (by kernel_rfl) (by rfl) (by first | assumption | decide +kernel) (by decide +kernel) ⟨rfl, rfl, rfl, rfl, rfl, by decide +kernel⟩ ?hw ?hc
  case hw => w_witness2
  case hc => exact K02.walk _ (by kernel_rfl) (by kernel_rfl) plain
end
-- PL02a
section
set_option Elab.async false
set_option linter.all false
set_option maxRecDepth 100000
set_option maxHeartbeats 4000000
namespace K02
open PySem PySem.Spec PyProof.Rows VL LB
open L2 hiding St
/-! ### one lap -/
def lapB : List S := match b_law with
  | .forS _ _ _ b :: _ => b
  | _ => []
def restB : List S := b_law.drop 1
/-- the names between two laps -/
def Inv0 (ρ : Env') : Prop := ∃ x0 x2 x3 x4 x5 x6 x7 x8 x9 x10 x11, ρ = [x0, some (.val .pen), x2, x3, x4, x5, x6, x7, x8, x9, x10, x11]
theorem frz1 {ρ : Env'} {ss : List S} {K : KS} {b : Nat} (h : ρ[1]? = some (some (.val .pen))) (h2 : exs ss ρ K b) : exs (.frz 1 :: ss) ρ K b := wp_frz' (fun d z => by rw [h] at z; cases z) h2
theorem noClo_q (q : Int × Int) : (qD q).noClo = true := rfl
section
variable {ρ : Env'}
theorem pick_c {xs : List E} {ds : List D} {i : Nat} (hp : ρ[i]? = some (some (.val .pen))) (h1 : ∃ rs, Ret (evs xs ρ) rs ∧ Ret (keptAll rs) ds) (h0 : ds ≠ []) (hl : ds.length ≤ 1000) (nc : D.noClos ds = true) : Gets (ev (.callC "_law_pick" m_law_pick [.var i, .lst xs] [] []) ρ) 1 fun r => ∃ d ∈ ds, r = .val d := by
  obtain ⟨rs, a, c⟩ := h1
  refine gt_callN (rt_cons (rt_var hp) (rt_cons (rt_lst a c (sz_ok hl)) rt_nil)) (rk_val (rk_frs rk_nil)) (by simpa [D.noClos, D.noClo] using nc) (pick_gets h0 hl) fun r ⟨d, hd, hr⟩ => ?_
  subst hr
  have key : ∀ l : List D, D.noClos l = true → ∀ d ∈ l, d.noClo = true := by
    intro l
    induction l with
    | nil => intro _ d hd; cases hd
    | cons x l ih =>
      intro h d hd
      have h' := Bool.and_eq_true_iff.mp (show (x.noClo && D.noClos l) = true from h)
      rcases List.mem_cons.mp hd with rfl | hd
      · exact h'.1
      · exact ih h'.2 d hd
  exact key ds nc d hd
theorem draw_c {k : Int} {i : Nat} (hp : ρ[i]? = some (some (.val .pen))) (h0 : 0 < k) (h1 : k < 2 ^ 64) : Gets (ev (.callC "_law_draw" m_law_draw [.var i, .lit (.int k)] [] []) ρ) 1 fun r => ∃ j : Int, r = .val (.int j) ∧ 0 ≤ j ∧ j < k :=
  gt_callN (rt_cons (rt_var hp) (rt_cons (rt_lit _) rt_nil)) (rk_val (rk_val rk_nil)) rfl (draw_gets h0 h1) fun r ⟨j, hr, _⟩ => by subst hr; rfl
end
/-- what the five answers are -/
def five (p q : Int × Int) : List D := [qD p, qD (addQ p q), qD (subQ p q), qD (mulQ p q), .bl (ltQ p q)]
theorem shw_q {q : Int × Int} (h : SzQ 1900 q) : ∃ pp, Shw (qD q) pp 4000 1 := ⟨_, by
  have := shw_tup (.cons (shw_int (h.a.mono (m := 1920) (by decide))) (.cons (shw_int (h.b.mono (m := 1920) (by decide))) .nil))
  exact ⟨this.py, this.sh, Nat.le_trans this.le (by decide), Nat.le_trans this.dp (by decide), this.nd⟩⟩
theorem shw_five {p q : Int × Int} (hp : Lo p) (hq : Lo q) (sp : SzQ 26 p) (sq : SzQ 26 q) : ∃ pp, Shw (.lst (five p q)) pp 100000 3 := by
  obtain ⟨_, h1⟩ := shw_q (sp.mono (m := 1900) (by decide))
  obtain ⟨_, h2⟩ := shw_q ((addQ_sz hp hq sp sq).mono (m := 1900) (by decide))
  obtain ⟨_, h3⟩ := shw_q ((subQ_sz hp hq sp sq).mono (m := 1900) (by decide))
  obtain ⟨_, h4⟩ := shw_q ((mulQ_sz hp hq sp sq).mono (m := 1900) (by decide))
  have := shw_lst (.cons h1 (.cons h2 (.cons h3 (.cons h4 (.cons (shw_bl (ltQ p q)) .nil)))))
  exact ⟨_, this.py, this.sh, Nat.le_trans this.le (by decide), Nat.le_trans this.dp (by decide), this.nd⟩
section
variable {ρ : Env'} {p q : Int × Int} {a c : D}
/-- a call of two names -/
theorem two_c {f : Str} {g : List D → M R} {i j : Nat} {d e r : D} (h1 : ρ[i]? = some (some (.val d))) (h2 : ρ[j]? = some (some (.val e))) (n1 : d.noClo = true) (n2 : e.noClo = true) (h : Ret (g [d, e]) (.val r)) (nr : r.noClo = true) : Ret (ev (.callC f g [.var i, .var j] [] []) ρ) (.val r) :=
  rt_callN (rt_cons (rt_var h1) (rt_cons (rt_var h2) rt_nil)) (rk_val (rk_val rk_nil)) (by simp [D.noClos, n1, n2]) h nr
theorem one_c {f : Str} {g : List D → M R} {i : Nat} {d r : D} (h1 : ρ[i]? = some (some (.val d))) (n1 : d.noClo = true) (h : Ret (g [d]) (.val r)) (nr : r.noClo = true) : Ret (ev (.callC f g [.var i] [] []) ρ) (.val r) :=
  rt_callN (rt_cons (rt_var h1) rt_nil) (rk_val rk_nil) (by simp [D.noClos, n1]) h nr
end
/-- is_ratio -/
theorem ratio_ret {d : D} (h : Ok1 d) : Ret (m_is_ratio [d]) (.val (.bl (wholeB d || (decide (d.ty = .ty "tuple") && (pairOf d).isSome)))) := by
  have w := rt_call (f := "is_whole") (rt_cons (rt_var (ρ := startE 1 [d]) (i := 0) rfl) rt_nil) (rk_val rk_nil) (whole_ret h.known)
  have pr := rt_call (f := "is_pair") (rt_cons (rt_var (ρ := startE 1 [d]) (i := 0) rfl) rt_nil) (rk_val rk_nil) (pair_ret h.k h.s)
  refine defM_ret rfl fun K b hk => wp_ret (rt_ors (rt_or w fun _ => rt_or1 (rt_ands (rt_and (rt_isi (rt_var rfl) h.known) fun _ => rt_and1 pr)))) (fun _ z => by cases z) ?_
  have e : [TyN.ty "tuple"].any (isiB d) = decide (d.ty = .ty "tuple") := by
    cases d <;> simp [isiB, D.ty]
  rw [← e] at hk
  exact hk
theorem is_ratio_hand {n : Nat} {d : D} {q : Int × Int} (h : Hand n d q) : (wholeB d || (decide (d.ty = .ty "tuple") && (pairOf d).isSome)) = !decide (d.ty = .ty "list") := by
  have e := h.is
  cases d with
  | int i => rfl
  | tup xs =>
    have e : (pairOf (.tup xs)).map (fun q => lowQ q.1 q.2) = some q := e
    cases hp : pairOf (.tup xs) with
    | none => rw [hp] at e; cases e
    | some z => rfl
  | lst xs => rfl
  | _ => cases e
theorem lap_ok : ∀ d ∈ rngD 0 6, ∀ (ρ : Env') (K : KS) (b : Nat), Inv0 ρ → 20 ≤ b → (∀ ρ' b', Inv0 ρ' → b ≤ b' + 20 → K.nx ρ' b') → turnS (.var 2) lapB d ρ K b := by
  rintro lap _ _ K b ⟨x0, x2, x3, x4, x5, x6, x7, x8, x9, x10, x11, rfl⟩ hb hn
  show exs lapB [x0, some (.val .pen), some (.val lap), x3, x4, x5, x6, x7, x8, x9, x10, x11] K b
  refine frz1 rfl ?_
  -- one, two
  have pk := pick_c (ρ := [x0, some (.val .pen), some (.val lap), x3, x4, x5, x6, x7, x8, x9, x10, x11]) (i := 1) (xs := [.lit (.int 4), .lit (.int 99999)]) (ds := [.int 4, .int 99999]) rfl ⟨_, rt_cons (rt_lit _) (rt_cons (rt_lit _) rt_nil), rk_val (rk_val rk_nil)⟩ (by simp) (by simp) rfl
  have pv : Ret (ev (.var 1) [x0, some (.val .pen), some (.val lap), x3, x4, x5, x6, x7, x8, x9, x10, x11]) (.val .pen) := rt_var rfl
  have d1 : Gets (ev (.callC "_law_drawn" m_law_drawn [.var 1, .callC "_law_pick" m_law_pick [.var 1, .lst [.lit (.int 4), .lit (.int 99999)]] [] []] [] []) [x0, some (.val .pen), some (.val lap), x3, x4, x5, x6, x7, x8, x9, x10, x11]) 3 fun r => ∃ q, r = .val (qD q) ∧ Lo q ∧ SzQ 20 q := by
    refine Gets.mono (k := 0 + (1 + 0) + 2) (gt_callNG (gt_cons pv.g (gt_cons pk gt_nil)) (fun rs hrs => ?_) fun r ⟨q, hr, _⟩ => by subst hr; rfl) (by omega) fun _ z => z
    obtain ⟨_, _, rfl, rfl, _, _, rfl, ⟨d, hd, rfl⟩, rfl⟩ := hrs
    simp at hd
    rcases hd with rfl | rfl
    · exact ⟨_, rk_val (rk_val rk_nil), rfl, drawn_gets (by omega) (by omega)⟩
    · exact ⟨_, rk_val (rk_val rk_nil), rfl, drawn_gets (by omega) (by omega)⟩
  have d2 : Gets (ev (.callC "_law_drawn" m_law_drawn [.var 1, .lit (.int 9)] [] []) [x0, some (.val .pen), some (.val lap), x3, x4, x5, x6, x7, x8, x9, x10, x11]) 2 fun r => ∃ q, r = .val (qD q) ∧ Lo q ∧ SzQ 20 q :=
    gt_callN (rt_cons (rt_var rfl) (rt_cons (rt_lit _) rt_nil)) (rk_val (rk_val rk_nil)) rfl (drawn_gets (by omega) (by omega)) fun r ⟨q, hr, _⟩ => by subst hr; rfl
  refine wp_parG (gt_cons d1 (gt_cons d2 gt_nil)) (by omega) fun rs b1 hrs hb1 => ?_
  obtain ⟨_, _, rfl, ⟨p0, rfl, lp0, sp0⟩, _, _, rfl, ⟨q, rfl, lq, sq⟩, rfl⟩ := hrs
  refine ⟨_, rfl, frz1 rfl ?_⟩
  -- the third draw
  have d3 := draw_c (ρ := [x0, some (.val .pen), some (.val lap), x3, x4, x5, x6, x7, some (.val (qD p0)), some (.val (qD q)), x10, x11]) (i := 1) (k := 3) rfl (by omega) (by omega)
  have z0 : Ret (ev (.lit (.int 0)) [x0, some (.val .pen), some (.val lap), x3, x4, x5, x6, x7, some (.val (qD p0)), some (.val (qD q)), x10, x11]) (.val (.int 0)) := rt_lit _
  -- what is left, with one and two
  have tail : ∀ (p : Int × Int) (b2 : Nat), Lo p → SzQ 23 p → b ≤ b2 + 6 → exs (lapB.drop 4) [x0, some (.val .pen), some (.val lap), x3, x4, x5, x6, x7, some (.val (qD p)), some (.val (qD q)), x10, x11] K b2 := by
    intro p b2 lp sp hb2
    have sq := sq.mono (m := 23) (by omega)
    refine frz1 rfl ?_
    have h1 : Gets (ev (.callC "_law_handed" m_law_handed [.var 1, .var 8] [] []) [x0, some (.val .pen), some (.val lap), x3, x4, x5, x6, x7, some (.val (qD p)), some (.val (qD q)), x10, x11]) 3 fun r => ∃ d, r = .val d ∧ Hand 26 d p ∧ d.noClo = true :=
      gt_callN (rt_cons (rt_var rfl) (rt_cons (rt_var rfl) rt_nil)) (rk_val (rk_val rk_nil)) rfl (handed_gets lp sp (by omega)) fun r ⟨d, hr, _, hc⟩ => by subst hr; exact hc
    have h2 : Gets (ev (.callC "_law_handed" m_law_handed [.var 1, .var 9] [] []) [x0, some (.val .pen), some (.val lap), x3, x4, x5, x6, x7, some (.val (qD p)), some (.val (qD q)), x10, x11]) 3 fun r => ∃ d, r = .val d ∧ Hand 26 d q ∧ d.noClo = true :=
      gt_callN (rt_cons (rt_var rfl) (rt_cons (rt_var rfl) rt_nil)) (rk_val (rk_val rk_nil)) rfl (handed_gets lq sq (by omega)) fun r ⟨d, hr, _, hc⟩ => by subst hr; exact hc
    refine wp_parG (gt_cons h1 (gt_cons h2 gt_nil)) (by omega) fun rs b3 hrs hb3 => ?_
    obtain ⟨_, _, rfl, ⟨a, rfl, ha, na⟩, _, _, rfl, ⟨c, rfl, hc, nc⟩, rfl⟩ := hrs
    refine ⟨_, rfl, ?_⟩
    have sp26 := sp.mono (m := 26) (by omega)
    have sq26 := sq.mono (m := 26) (by omega)
    -- due
    refine wp_set (r := .frs (.lst (five p q))) (rt_lst (ds := five p q) (rt_cons (rt_var rfl) (rt_cons (two_c rfl rfl rfl rfl (lplus_ret lp lq sp sq (by omega)) rfl) (rt_cons (two_c rfl rfl rfl rfl (lminus_ret lp lq sp sq (by omega)) rfl) (rt_cons (two_c rfl rfl rfl rfl (ltimes_ret lp lq sp sq (by omega)) rfl) (rt_cons (two_c rfl rfl rfl rfl (lless_ret sp sq (by omega)) rfl) rt_nil))))) (rk_val (rk_val (rk_val (rk_val (rk_val rk_nil))))) (sz_ok (by simp [five]))) rfl ?_
    obtain ⟨pp, sh⟩ := shw_five lp lq sp26 sq26
    -- the five
    refine wp_iteF (rt_cmp (rt_bi1 (rt_lst (ds := five p q) (rt_cons (one_c rfl na (told_ret ha.ok ha.sz (by omega) ha.is) rfl) (rt_cons (two_c rfl rfl na nc (plus_ret ha hc (by omega)) rfl) (rt_cons (two_c rfl rfl na nc (minus_ret ha hc (by omega)) rfl) (rt_cons (two_c rfl rfl na nc (times_ret ha hc (by omega)) rfl) (rt_cons (two_c rfl rfl na nc (less_ret ha hc (by omega)) rfl) rt_nil))))) (rk_val (rk_val (rk_val (rk_val (rk_val rk_nil))))) (sz_ok (by simp [five]))) (rp_shw (x := .frs (.lst (five p q))) sh (by decide) (by decide))) (rt_bi1 (rt_var (r := .own (.lst (five p q))) rfl) (rp_shw (x := .own (.lst (five p q))) sh (by decide) (by decide))) (rc_strN _)) (wp_nil ?_)
    -- is_ratio
    have e1 := one_c (ρ := [x0, some (.val .pen), some (.val lap), x3, x4, some (.own (.lst (five p q))), x6, x7, some (.val (qD p)), some (.val (qD q)), some (.val a), some (.val c)]) (f := "is_ratio") (i := 10) rfl na (ratio_ret ha.ok) rfl
    have e2 : Ret (ev (.not (.isi (.var 10) [.ty "list"])) [x0, some (.val .pen), some (.val lap), x3, x4, some (.own (.lst (five p q))), x6, x7, some (.val (qD p)), some (.val (qD q)), some (.val a), some (.val c)]) (.val (.bl (!decide (a.ty = .ty "list")))) := by
      refine rt_not (bl_of (rt_isi (rt_var rfl) ha.ok.known) ?_)
      show [TyN.ty "list"].any (isiB a) = _
      cases a <;> simp [isiB, D.ty]
    rw [is_ratio_hand ha] at e1
    refine wp_iteF (rt_cmp (rt_bi1 e1 (rp_shw (x := .val (.bl _)) (shw_bl _) (by decide) (by decide))) (rt_bi1 e2 (rp_shw (x := .val (.bl _)) (shw_bl _) (by decide) (by decide))) (rc_strN _)) (wp_nil ?_)
    -- share
    have last : ∀ u, exs [] [x0, some (.val .pen), some (.val lap), x3, x4, some (.own (.lst (five p q))), x6, x7, some (.val (qD p)), some (.val (qD q)), some (.val a), some (.val c)] { K with rt := u } b3 := fun u => wp_nil (hn _ _ ⟨_, _, _, _, _, _, _, _, _, _, _, rfl⟩ (by omega))
    have t0 : Ret (ev (.cmp .NotEq (.idx (.var 9) (.lit (.int 0))) (.lit (.int 0))) [x0, some (.val .pen), some (.val lap), x3, x4, some (.own (.lst (five p q))), x6, x7, some (.val (qD p)), some (.val (qD q)), some (.val a), some (.val c)]) (.val (.bl (!decide (q.1 = 0)))) := rt_cmp (rt_idx (rt_var rfl) (rt_lit _) (ri_tup rfl)) (rt_lit _) rc_ne
    by_cases h0 : q.1 = 0
    · exact wp_iteF (rt_ands (rt_andF (bl_of t0 (by simp [h0])))) (wp_nil (last _))
    · obtain ⟨pp2, sh2⟩ := shw_q ((divQ_sz lp h0 sp26 sq26).mono (m := 1900) (by omega))
      exact wp_iteF (rt_ands (rt_andT (bl_of t0 (by simp [h0])) (rt_and1 (rt_cmp (rt_bi1 (two_c rfl rfl na nc (share_ret ha hc h0 (by omega)) rfl) (rp_shw (x := .val (qD _)) sh2 (by decide) (by decide))) (rt_bi1 (two_c rfl rfl rfl rfl (lshare_ret lp h0 sp sq (by omega)) rfl) (rp_shw (x := .val (qD _)) sh2 (by decide) (by decide))) (rc_strN _))))) (wp_nil (last _))
  refine wp_iteG (k := 1) (φ := fun _ => True) (Gets.mono (k := 1 + 0) (gt_cmp d3 z0.g fun x y ⟨j, hx, _⟩ hy => ?_) (by omega) fun _ z => z) (by omega) (fun _ b2 hb2 => ?_) fun _ b2 hb2 => ?_
  · subst hx hy
    exact ⟨_, rc_eq, _, rfl, trivial⟩
  · have s1 : Sz 23 (p0.1 * 5 - 3) := by
      have := sp0.a
      unfold Sz at *
      omega
    have s2 : Sz 23 (999959 : Int) := by unfold Sz; decide
    have sz := lowQ_sz s1 s2 (by decide)
    exact wp_set (rt_callN (rt_cons (rt_bin (rt_bin (rt_idx (rt_var rfl) (rt_lit _) (ri_tup rfl)) (rt_lit _) (rb_mul (sp0.a.cmul (m := 3) (by unfold Sz; decide) (by decide)))) (rt_lit _) rb_sub) (rt_cons (rt_lit _) rt_nil)) (rk_val (rk_val rk_nil)) rfl (lows_q _ _ 23 (by decide) s1 s2 (by decide)) rfl) rfl (wp_nil (tail _ b2 (lowQ_spec (by decide)).1 ⟨sz.1, sz.2⟩ (by omega)))
  · exact wp_nil (tail p0 b2 lp0 (sp0.mono (by omega)) (by omega))
end K02
end
-- PL02
section
set_option Elab.async false
set_option linter.all false
set_option maxRecDepth 100000
set_option maxHeartbeats 4000000
namespace K02
open PySem PySem.Spec PyProof.Rows VL LB
open L2 hiding St
/-! ### what is no ratio -/
def badL : List D := [.non, .str "1", .tup [.int 1], .tup [.int 1, .int 0], .tup [.int 1, .int (-2)], .tup [.bl true, .int 2], .tup [.int 1, .bl true], .bl true, .tup [.int 1, .int 2, .int 3], .lst [], .dct []]
def oddL : List D := [.str "x", .tup [.int 0, .int 0], .non]
def zeroL : List D := [.int 0, .tup [.int 0, .int 6]]
/-- what is no ratio, and may be told -/
structure Bad (d : D) : Prop where
  ok : Ok1 d
  is : toldOf d = none
  nc : d.noClo = true
  te : Tellable (.tup [.str "row", d])
  nr : (wholeB d || (decide (d.ty = .ty "tuple") && (pairOf d).isSome)) = false
theorem ok1_of {d : D} {n : Nat} (h : knownA d = true) (h2 : (match d.items with | some xs => decide (xs.length ≤ 1000) | none => true) = true) : Ok1 d := ⟨h, fun xs e => by
  rw [e] at h2
  exact of_decide_eq_true h2⟩
theorem bad_ok : ∀ d ∈ badL, Bad d := by
  have big : (1000 : Nat) ≤ sizeLine := by decide
  intro d hd
  simp only [badL, List.mem_cons, List.not_mem_nil, or_false] at hd
  rcases hd with rfl | rfl | rfl | rfl | rfl | rfl | rfl | rfl | rfl | rfl | rfl
  all_goals exact ⟨ok1_of (n := 0) rfl rfl, rfl, rfl, ⟨_, rfl, by decide +kernel, Nat.le_trans (by decide +kernel) big, by decide +kernel, by decide +kernel⟩, by decide +kernel⟩
theorem odd_ok : ∀ d ∈ oddL, Bad d := by
  have big : (1000 : Nat) ≤ sizeLine := by decide
  intro d hd
  simp only [oddL, List.mem_cons, List.not_mem_nil, or_false] at hd
  rcases hd with rfl | rfl | rfl
  all_goals exact ⟨ok1_of (n := 0) rfl rfl, rfl, rfl, ⟨_, rfl, by decide +kernel, Nat.le_trans (by decide +kernel) big, by decide +kernel, by decide +kernel⟩, by decide +kernel⟩
theorem Bad.sz {d : D} (h : Bad d) (n : Nat) : szOf n d := fun x y e => by
  have h := h.is
  cases d with
  | int i => cases h
  | _ =>
    first
    | (simp only [toldOf, e, Option.map_some] at h; cases h)
    | cases h
theorem zero_ok : ∀ d ∈ zeroL, Hand 10 d (0, 1) ∧ d.noClo = true := by
  intro d hd
  simp only [zeroL, List.mem_cons, List.not_mem_nil, or_false] at hd
  have lo : Lo (0, 1) := by
    have := (lowQ_spec (x := 0) (y := 1) (by decide)).1
    exact this
  have sq : SzQ 10 ((0, 1) : Int × Int) := ⟨by unfold Sz; decide, by unfold Sz; decide⟩
  rcases hd with rfl | rfl
  · exact ⟨⟨ok1_of (n := 0) rfl rfl, fun x y e => (by cases e), rfl, lo, sq⟩, rfl⟩
  · exact ⟨⟨ok1_of (n := 0) rfl rfl, fun x y e => by
      have e : some ((0 : Int), (6 : Int)) = some (x, y) := e
      cases e
      unfold Sz; decide, by decide +kernel, lo, sq⟩, rfl⟩
theorem three_ok : Hand 10 (.int 3) (3, 1) := ⟨ok1_of (n := 0) rfl rfl, fun x y e => by (cases e), rfl, (lowQ_spec (x := 3) (y := 1) (by decide)).1, ⟨by unfold Sz; decide, by unfold Sz; decide⟩⟩
def rowD (d : D) : D := .tup [.str "row", d]
def triesL (bad odd : D) : List (Nat × D) := [(0, rowD bad), (1, rowD bad), (2, rowD bad), (3, rowD odd), (4, rowD bad), (5, rowD bad), (6, rowD bad), (7, .tup [.str "number", .str "share", .int 0])]
theorem number_te : Tellable (.tup [.str "number", .str "share", .int 0]) := by
  have big : (1000 : Nat) ≤ sizeLine := by decide
  exact ⟨_, rfl, by decide +kernel, Nat.le_trans (by decide +kernel) big, by decide +kernel, by decide +kernel⟩
/-- what the lambdas throw -/
theorem row_try {n : Nat} {cap : List (Str × D)} {x : E} {NL : List Str} {d : D} (h1 : ltOf lts n = some (x, NL)) (h2 : D.noCloK cap = true) (h3 : Thr (ev x (capE NL cap)) ⟨"BadRow", [("row", d)]⟩) : Ret (m_law_fault [.clo n cap]) (.val (rowD d)) := fault_thr h1 h2 h3 rfl
theorem tries_ok {bad odd zero : D} (hb : Bad bad) (ho : Bad odd) (hz : Hand 10 zero (0, 1)) (nz : zero.noClo = true) : ∀ x ∈ triesL bad odd, Ret (m_law_fault [.clo x.1 [("bad", bad), ("odd", odd), ("zero", zero)]]) (.val x.2) ∧ Tellable x.2 := by
  have nc : D.noCloK [("bad", bad), ("odd", odd), ("zero", zero)] = true := by simp [D.noCloK, hb.nc, ho.nc, nz]
  have i1 : Ok1 (.int 1) := ok1_of (n := 0) rfl rfl
  have i0 : Ok1 (.int 0) := ok1_of (n := 0) rfl rfl
  have i12 : Ok1 (.tup [.int 1, .int 2]) := ok1_of (n := 0) rfl rfl
  have s1 : szOf 10 (.int 1) := fun x y e => by cases e
  have s12 : szOf 10 (.tup [.int 1, .int 2]) := fun x y e => by
    have e : some ((1 : Int), (2 : Int)) = some (x, y) := e
    cases e
    unfold Sz; decide
  intro x hx
  simp only [triesL, List.mem_cons, List.not_mem_nil, or_false] at hx
  rcases hx with rfl | rfl | rfl | rfl | rfl | rfl | rfl | rfl
  · exact ⟨row_try rfl nc (thr_call (rt_cons (rt_var rfl) rt_nil) (rk_val rk_nil) (told_thr hb.ok hb.is)), hb.te⟩
  · exact ⟨row_try rfl nc (thr_call (rt_cons (rt_var rfl) (rt_cons (rt_var rfl) rt_nil)) (rk_val (rk_val rk_nil)) (two_thr ⟨hb.ok, ho.ok, hb.sz 10, by decide, .inl ⟨hb.is, rfl⟩⟩)), hb.te⟩
  · exact ⟨row_try rfl nc (thr_call (rt_cons (rt_lit _) (rt_cons (rt_var rfl) rt_nil)) (rk_val (rk_val rk_nil)) (two_thr ⟨i1, hb.ok, s1, by decide, .inr ⟨⟨_, rfl⟩, hb.is, rfl⟩⟩)), hb.te⟩
  · exact ⟨row_try rfl nc (thr_call (rt_cons (rt_var rfl) (rt_cons (rt_var rfl) rt_nil)) (rk_val (rk_val rk_nil)) (two_thr ⟨ho.ok, hb.ok, ho.sz 10, by decide, .inl ⟨ho.is, rfl⟩⟩)), ho.te⟩
  · exact ⟨row_try rfl nc (thr_call (rt_cons (rt_tup (rt_cons (rt_lit _) (rt_cons (rt_lit _) rt_nil)) (rk_val (rk_val rk_nil)) (sz_ok (by decide))) (rt_cons (rt_var rfl) rt_nil)) (rk_val (rk_val rk_nil)) (two_thr ⟨i12, hb.ok, s12, by decide, .inr ⟨⟨_, rfl⟩, hb.is, rfl⟩⟩)), hb.te⟩
  · exact ⟨row_try rfl nc (thr_call (rt_cons (rt_var rfl) (rt_cons (rt_lit _) rt_nil)) (rk_val (rk_val rk_nil)) (two_thr ⟨hb.ok, i0, hb.sz 10, by decide, .inl ⟨hb.is, rfl⟩⟩)), hb.te⟩
  · exact ⟨row_try rfl nc (thr_call (rt_cons (rt_lit _) (rt_cons (rt_var rfl) rt_nil)) (rk_val (rk_val rk_nil)) (two_thr ⟨i1, hb.ok, s1, by decide, .inr ⟨⟨_, rfl⟩, hb.is, rfl⟩⟩)), hb.te⟩
  · exact ⟨fault_thr rfl nc (thr_call (rt_cons (rt_lit _) (rt_cons (rt_var rfl) rt_nil)) (rk_val (rk_val rk_nil)) (share_thr0 three_ok hz rfl (by decide))) rfl, number_te⟩
/-! ### the law's end -/
theorem empty_dct {ρ : Env'} : Ret (ev (.dct [] []) ρ) (.frs (.dct [])) := rt_dct (ks := []) rt_nil rk_nil rfl
theorem row_rt {ρ : Env'} {n i : Nat} {d : D} (h : ρ[i]? = some (some (.val d))) : Ret (ev (.tup [.lam n, .tup [.lit (.str "row"), .var i]]) ρ) (.val (rawD (n, rowD d))) := rt_tup (rt_cons (rt_lam n) (rt_cons (rt_tup (rt_cons (rt_lit _) (rt_cons (rt_var h) rt_nil)) (rk_val (rk_val rk_nil)) (sz_ok (by simp))) rt_nil)) (rk_val (rk_val rk_nil)) (sz_ok (by simp))
theorem num_rt {ρ : Env'} {n : Nat} : Ret (ev (.tup [.lam n, .tup [.lit (.str "number"), .lit (.str "share"), .lit (.int 0)]]) ρ) (.val (rawD (n, .tup [.str "number", .str "share", .int 0]))) := rt_tup (rt_cons (rt_lam n) (rt_cons (rt_tup (rt_cons (rt_lit _) (rt_cons (rt_lit _) (rt_cons (rt_lit _) rt_nil))) (rk_val (rk_val (rk_val rk_nil))) (sz_ok (by simp))) rt_nil)) (rk_val (rk_val rk_nil)) (sz_ok (by simp))
theorem end_ok {ρ : Env'} {b : Nat} (hi : Inv0 ρ) (hb : 10 ≤ b) : exs restB ρ lawK b := by
  obtain ⟨x0, x2, x3, x4, x5, x6, x7, x8, x9, x10, x11, rfl⟩ := hi
  refine frz1 rfl ?_
  have g1 := pick_c (ρ := [x0, some (.val .pen), x2, x3, x4, x5, x6, x7, x8, x9, x10, x11]) (i := 1) (ds := badL) rfl ⟨_, rt_cons (rt_lit _) (rt_cons (rt_lit _) (rt_cons (rt_tup (rt_cons (rt_lit _) rt_nil) (rk_val rk_nil) (sz_ok (by decide)))
    (rt_cons (rt_tup (rt_cons (rt_lit _) (rt_cons (rt_lit _) rt_nil)) (rk_val (rk_val rk_nil)) (sz_ok (by decide))) (rt_cons (rt_tup (rt_cons (rt_lit _) (rt_cons (rt_neg (rt_lit _)) rt_nil)) (rk_val (rk_val rk_nil)) (sz_ok (by decide)))
    (rt_cons (rt_tup (rt_cons (rt_lit _) (rt_cons (rt_lit _) rt_nil)) (rk_val (rk_val rk_nil)) (sz_ok (by decide))) (rt_cons (rt_tup (rt_cons (rt_lit _) (rt_cons (rt_lit _) rt_nil)) (rk_val (rk_val rk_nil)) (sz_ok (by decide)))
    (rt_cons (rt_lit _) (rt_cons (rt_tup (rt_cons (rt_lit _) (rt_cons (rt_lit _) (rt_cons (rt_lit _) rt_nil))) (rk_val (rk_val (rk_val rk_nil))) (sz_ok (by decide))) (rt_cons (rt_lst rt_nil rk_nil (sz_ok (by decide))) (rt_cons empty_dct rt_nil)))))))))),
    rk_val (rk_val (rk_val (rk_val (rk_val (rk_val (rk_val (rk_val (rk_val (rk_frs (rk_frs rk_nil))))))))))⟩ (by simp [badL]) (by simp [badL]) rfl
  refine wp_setG g1 (by omega) fun r b1 ⟨bad, hbad, hr⟩ hb1 => ?_
  subst hr
  have hbad := bad_ok _ hbad
  refine ⟨_, rfl, frz1 rfl ?_⟩
  have g2 := pick_c (ρ := [x0, some (.val .pen), x2, some (.val bad), x4, x5, x6, x7, x8, x9, x10, x11]) (i := 1) (ds := oddL) rfl ⟨_, rt_cons (rt_lit _) (rt_cons (rt_tup (rt_cons (rt_lit _) (rt_cons (rt_lit _) rt_nil)) (rk_val (rk_val rk_nil)) (sz_ok (by decide))) (rt_cons (rt_lit _) rt_nil)), rk_val (rk_val (rk_val rk_nil))⟩ (by simp [oddL]) (by simp [oddL]) rfl
  have g3 := pick_c (ρ := [x0, some (.val .pen), x2, some (.val bad), x4, x5, x6, x7, x8, x9, x10, x11]) (i := 1) (ds := zeroL) rfl ⟨_, rt_cons (rt_lit _) (rt_cons (rt_tup (rt_cons (rt_lit _) (rt_cons (rt_lit _) rt_nil)) (rk_val (rk_val rk_nil)) (sz_ok (by decide))) rt_nil), rk_val (rk_val rk_nil)⟩ (by simp [zeroL]) (by simp [zeroL]) rfl
  refine wp_asgsG (gt_tup (φ := fun r => ∃ odd ∈ oddL, ∃ zero ∈ zeroL, r = .val (.tup [odd, zero])) (gt_cons g2 (gt_cons g3 gt_nil)) fun rs hrs => ?_) (by omega) fun r b2 hr hb2 => ?_
  · obtain ⟨_, _, rfl, ⟨odd, ho, rfl⟩, _, _, rfl, ⟨zero, hz, rfl⟩, rfl⟩ := hrs
    exact ⟨[odd, zero], rk_val (rk_val rk_nil), by simp, odd, ho, zero, hz, rfl⟩
  obtain ⟨odd, ho, zero, hz, rfl⟩ := hr
  have ho := odd_ok _ ho
  obtain ⟨hz, nz⟩ := zero_ok _ hz
  refine ⟨_, rfl, rfl, ?_⟩
  show exs (restB.drop 4) [x0, some (.val .pen), x2, some (.val bad), x4, x5, some (.val odd), some (.val zero), x8, x9, x10, x11] _ _
  refine wp_set (rt_lst (rt_cons (row_rt (d := bad) rfl) rt_nil) (rk_val rk_nil) (sz_ok (by simp))) rfl ?_
  refine wp_app rfl (row_rt (d := bad) rfl) (rk_v _) (Nat.lt_of_lt_of_le (by simp) (sz_ok (Nat.le_refl 1000))) ?_
  refine wp_app rfl (row_rt (d := bad) rfl) (rk_v _) (Nat.lt_of_lt_of_le (by simp) (sz_ok (Nat.le_refl 1000))) ?_
  refine wp_app rfl (row_rt (d := odd) rfl) (rk_v _) (Nat.lt_of_lt_of_le (by simp) (sz_ok (Nat.le_refl 1000))) ?_
  refine wp_app rfl (row_rt (d := bad) rfl) (rk_v _) (Nat.lt_of_lt_of_le (by simp) (sz_ok (Nat.le_refl 1000))) ?_
  refine wp_app rfl (row_rt (d := bad) rfl) (rk_v _) (Nat.lt_of_lt_of_le (by simp) (sz_ok (Nat.le_refl 1000))) ?_
  refine wp_app rfl (row_rt (d := bad) rfl) (rk_v _) (Nat.lt_of_lt_of_le (by simp) (sz_ok (Nat.le_refl 1000))) ?_
  refine wp_app rfl num_rt (rk_v _) (Nat.lt_of_lt_of_le (by simp) (sz_ok (Nat.le_refl 1000))) ?_
  refine wp_frz rfl ?_
  show exs [.ret (.and [.cmp .Is (.callC "is_ratio" m_is_ratio [.var 3] [] []) (.lit (.bl false)), .callC "_law_are_due" m_law_are_due [.var 4] [("bad", 3), ("odd", 6), ("zero", 7)] [0, 1, 2, 3, 4, 5, 6, 7]])] [x0, some (.val .pen), x2, some (.val bad), some (.val (.lst ((triesL bad odd).map rawD))), x5, some (.val odd), some (.val zero), x8, x9, x10, x11] _ _
  have e1 := one_c (ρ := [x0, some (.val .pen), x2, some (.val bad), some (.val (.lst ((triesL bad odd).map rawD))), x5, some (.val odd), some (.val zero), x8, x9, x10, x11]) (f := "is_ratio") (i := 3) rfl hbad.nc (ratio_ret hbad.ok) rfl
  rw [hbad.nr] at e1
  refine wp_ret (r := .val (.bl true)) (rt_ands (rt_andT (rt_cmp e1 (rt_lit _) rc_is) (rt_and1 (tries_ret rfl (by decide : 8 ≤ 1000) (cap_cons rfl hbad.nc (cap_cons rfl ho.nc (cap_cons rfl nz cap_nil))) (fun x hx => ?_) (tries_ok hbad ho hz nz))))) (fun _ z => by cases z) rfl
  simp only [triesL, List.mem_cons, List.not_mem_nil, or_false] at hx
  have nr : ∀ d : D, d.noClo = true → (rowD d).noClo = true := fun d h => by simp [rowD, D.noClo, D.noClos, h]
  rcases hx with rfl | rfl | rfl | rfl | rfl | rfl | rfl | rfl
  all_goals first | exact ⟨nr _ hbad.nc, by simp⟩ | exact ⟨nr _ ho.nc, by simp⟩ | exact ⟨rfl, by simp⟩
theorem plain : lawP K02.N_law.length K02.b_law := by
  show exs (.forS (.var 2) .rng [.lit (.int 6)] lapB :: restB) (lawE 12) lawK (2 ^ 48)
  refine wp_for (rt_cons (rt_lit _) rt_nil) (rk_val rk_nil) (rw_rng (by decide)) ?_
  refine for_inv Inv0 20 lap_ok ⟨_, _, _, _, _, _, _, _, _, _, _, rfl⟩ (by decide) fun ρ' b' hi hb => end_ok hi ?_
  have : 20 * (rngD 0 (6 : Int).toNat).length = 120 := by decide
  omega
end K02
end
theorem PySem.Challenge.cw_loanpapers_k02_ratios_holds : PySem.Challenge.rw_loanpapers_k02_ratios.Holds := by
  exact K02.holds_of K02.plain
