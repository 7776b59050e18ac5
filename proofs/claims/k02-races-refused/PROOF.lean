import PyProof.Rows.All
import Wide.All
import OpenK.AllK
import Wide.FinOn
import HandS.ForMost
import HandS.ForExc
import HandS.IsInst
import HandS.Property
import HandS.CallLocal
import HandS.DictComp
import HandS.TupAny
import HandS.Style
import HandS.Conv
import HandS.RaiseMore
import HandS.WordsDict
import KE.KTupSum
import HandS.TupMul
import HandS.ExcInit
import HandS.ExcField
import HandS.TryMany
import HandS.WordsExc
import HandS.CallSlots
import KE.GoesEnum
import HandS.Zip
import HandS.Small
import PySem.Challenge.RW_racelengths_k02_races_refused
set_option Elab.async false
set_option linter.all false
set_option maxRecDepth 100000
set_option maxHeartbeats 4000000
/-! Lay A: plain data D, what of a heap stands for it, the state of a frame. -/
namespace Rl
open PySem L2

/-- plain data -/
inductive D where
  | non | bl (b : Bool) | int (i : Int) | str (x : Str)
  | tup (l : List D) | lst (l : List D)
  | dct (l : List (Key × D)) | dtt (l : List (List Key × D))
  | ins (c : Str) (fs : List (Str × D))
  | fn (f : Str)
  /-- a list that is only read; a tuple of the module -/
  | scr (l : List D) | ctp (l : List D)
  deriving Inhabited

/-- a slot: data that never changes, or an object that this frame owns alone -/
inductive B where
  | dat (d : D) | own (d : D)
  deriving Inhabited
abbrev Env := List (Option B)

/-- names of classes and defs, as addresses -/
structure Nm where
  cls : Str → Option Addr
  fn : Str → Option Addr

section
variable (K : PySem.W.Frag) (N : Nm) (H : Hp)
mutual
inductive Rep : V → D → Prop
  | non : Rep .non .non
  | bl (b : Bool) : Rep (.bl b) (.bl b)
  | int (i : Int) : Rep (.int i) (.int i)
  | str (x : Str) : Rep (.str x) (.str x)
  | tup {a : Addr} {xs : List V} {ds : List D} : H a = some (.tup xs) → RepL xs ds → Rep (.ref a) (.tup ds)
  | ctp {a : Addr} {xs : List V} {ds : List D} : SqT K H a xs → RepL xs ds → Rep (.ref a) (.ctp ds)
  | lst {a : Addr} {xs : List V} {ds : List D} : H a = some (.lst xs) → RepL xs ds → Rep (.ref a) (.lst ds)
  | scr {a : Addr} {xs : List V} {ds : List D} : SqL K H a xs → RepL xs ds → Rep (.ref a) (.scr ds)
  | dct {a : Addr} {xs : List (Key × V)} {ds : List (Key × D)} : H a = some (.dK xs) → RepK xs ds → Rep (.ref a) (.dct ds)
  | dtt {a : Addr} {xs : List (List Key × V)} {ds : List (List Key × D)} : H a = some (.dT xs) → RepT xs ds → Rep (.ref a) (.dtt ds)
  | ins {a C dx : Addr} {c : Str} {xs : List (Str × V)} {ds : List (Str × D)} : H a = some (.ins C dx xs) → N.cls c = some C → RepF xs ds → Rep (.ref a) (.ins c ds)
  | fn {a : Addr} {f : Str} : N.fn f = some a → Rep (.ref a) (.fn f)
inductive RepL : List V → List D → Prop
  | nil : RepL [] []
  | cons {v : V} {d : D} {vs : List V} {ds : List D} : Rep v d → RepL vs ds → RepL (v :: vs) (d :: ds)
inductive RepK : List (Key × V) → List (Key × D) → Prop
  | nil : RepK [] []
  | cons {k : Key} {v : V} {d : D} {vs : List (Key × V)} {ds : List (Key × D)} : Rep v d → RepK vs ds → RepK ((k, v) :: vs) ((k, d) :: ds)
inductive RepT : List (List Key × V) → List (List Key × D) → Prop
  | nil : RepT [] []
  | cons {k : List Key} {v : V} {d : D} {vs : List (List Key × V)} {ds : List (List Key × D)} : Rep v d → RepT vs ds → RepT ((k, v) :: vs) ((k, d) :: ds)
inductive RepF : List (Str × V) → List (Str × D) → Prop
  | nil : RepF [] []
  | cons {k : Str} {v : V} {d : D} {vs : List (Str × V)} {ds : List (Str × D)} : Rep v d → RepF vs ds → RepF ((k, v) :: vs) ((k, d) :: ds)
end
end

/-- all that H knows stands in H' -/
def Ex (H H' : Hp) : Prop := ∀ a o, H a = some o → H' a = some o
theorem Ex.refl (H : Hp) : Ex H H := fun _ _ h => h
theorem Ex.trans {H H1 H2 : Hp} (a : Ex H H1) (b : Ex H1 H2) : Ex H H2 := fun x o h => b x o (a x o h)
theorem Ex.new {H : Hp} {p : Addr} {o : HO} (h : H p = none) : Ex H (upd H p o) := fun a u e => by
  rw [upd_ne (ne_of_none e h)]; exact e
/-- an object that H does not know may change -/
theorem Ex.mut {H H' : Hp} {p : Addr} {o : HO} (e : Ex H H') (h : H p = none) : Ex H (upd H' p o) := fun a u ha => by
  rw [upd_ne (ne_of_none ha h)]; exact e a u ha
theorem Ex.rd {H H' : Hp} {a : Addr} {u : HO} (e : Ex H H') (h : Rd H a u) : Rd H' a u := by
  rcases h with h | ⟨o, h⟩
  · exact Or.inl (e a _ h)
  · exact Or.inr ⟨o, e a _ h⟩
theorem Ex.sl {K : PySem.W.Frag} {H H' : Hp} {a : Addr} {xs : List V} (e : Ex H H') (h : SqL K H a xs) : SqL K H' a xs := by
  rcases h with h | h
  · exact Or.inl (e.rd h)
  · exact Or.inr h
theorem Ex.st {K : PySem.W.Frag} {H H' : Hp} {a : Addr} {xs : List V} (e : Ex H H') (h : SqT K H a xs) : SqT K H' a xs := by
  rcases h with h | h
  · exact Or.inl (e.rd h)
  · exact Or.inr h

section
variable {K : PySem.W.Frag} {N : Nm} {H H' : Hp}
mutual
theorem Rep.mono (e : Ex H H') : ∀ {v : V} {d : D}, Rep K N H v d → Rep K N H' v d
  | _, _, .non => .non
  | _, _, .bl b => .bl b
  | _, _, .int i => .int i
  | _, _, .str x => .str x
  | _, _, .tup h r => .tup (e _ _ h) (RepL.mono e r)
  | _, _, .ctp h r => .ctp (e.st h) (RepL.mono e r)
  | _, _, .lst h r => .lst (e _ _ h) (RepL.mono e r)
  | _, _, .scr h r => .scr (e.sl h) (RepL.mono e r)
  | _, _, .dct h r => .dct (e _ _ h) (RepK.mono e r)
  | _, _, .dtt h r => .dtt (e _ _ h) (RepT.mono e r)
  | _, _, .ins h c r => .ins (e _ _ h) c (RepF.mono e r)
  | _, _, .fn h => .fn h
theorem RepL.mono (e : Ex H H') : ∀ {v : List V} {d : List D}, RepL K N H v d → RepL K N H' v d
  | _, _, .nil => .nil
  | _, _, .cons a b => .cons (Rep.mono e a) (RepL.mono e b)
theorem RepK.mono (e : Ex H H') : ∀ {v : List (Key × V)} {d : List (Key × D)}, RepK K N H v d → RepK K N H' v d
  | _, _, .nil => .nil
  | _, _, .cons a b => .cons (Rep.mono e a) (RepK.mono e b)
theorem RepT.mono (e : Ex H H') : ∀ {v : List (List Key × V)} {d : List (List Key × D)}, RepT K N H v d → RepT K N H' v d
  | _, _, .nil => .nil
  | _, _, .cons a b => .cons (Rep.mono e a) (RepT.mono e b)
theorem RepF.mono (e : Ex H H') : ∀ {v : List (Str × V)} {d : List (Str × D)}, RepF K N H v d → RepF K N H' v d
  | _, _, .nil => .nil
  | _, _, .cons a b => .cons (Rep.mono e a) (RepF.mono e b)
end
end
end Rl

set_option Elab.async false
set_option linter.all false
set_option maxRecDepth 100000
set_option maxHeartbeats 4000000
/-! Lay B: the state of a frame over plain data; steps; results; canonical readings; judgements. -/
namespace Rl
open PySem L2

/-! ### what an owned object holds -/
inductive Cnt (K : PySem.W.Frag) (N : Nm) (Hb : Hp) : HO → D → Prop
  | lst {xs : List V} {ds : List D} : RepL K N Hb xs ds → Cnt K N Hb (.lst xs) (.lst ds)
  | dct {xs : List (Key × V)} {ds : List (Key × D)} : RepK K N Hb xs ds → Cnt K N Hb (.dK xs) (.dct ds)
  | dtt {xs : List (List Key × V)} {ds : List (List Key × D)} : RepT K N Hb xs ds → Cnt K N Hb (.dT xs) (.dtt ds)
  | ins {C dx : Addr} {c : Str} {xs : List (Str × V)} {ds : List (Str × D)} : N.cls c = some C → RepF K N Hb xs ds → Cnt K N Hb (.ins C dx xs) (.ins c ds)

def Own (σ : L2.St) (δ : Env) (a : Addr) : Prop := ∃ (i : Nat) (d : D), δ[i]? = some (some (.own d)) ∧ σ[i]? = some (some (.ref a))

structure Good (K : PySem.W.Frag) (N : Nm) (σ : L2.St) (δ : Env) (Hb H : Hp) : Prop where
  ex : Ex Hb H
  dat : ∀ (i : Nat) (d : D), δ[i]? = some (some (.dat d)) → ∃ v, σ[i]? = some (some v) ∧ Rep K N Hb v d
  own : ∀ (i : Nat) (d : D), δ[i]? = some (some (.own d)) → ∃ p o, σ[i]? = some (some (.ref p)) ∧ Hb p = none ∧ H p = some o ∧ Cnt K N Hb o d
  sep : ∀ (i j : Nat) (p : Addr) (d e : D), i ≠ j → δ[i]? = some (some (.own d)) → δ[j]? = some (some (.own e)) → σ[i]? = some (some (.ref p)) → σ[j]? = some (some (.ref p)) → False
  len : σ.length = δ.length

structure Stp (σ : L2.St) (δ : Env) (Hb H : Hp) (σ' : L2.St) (δ' : Env) (Hb' H' : Hp) : Prop where
  hb : Ex Hb Hb'
  fresh : ∀ a, Hb a = none → H a ≠ none → Hb' a = none ∨ Own σ δ a
  frame : ∀ a o, H a = some o → ¬ Own σ δ a → H' a = some o
  dom : ∀ a, H a ≠ none → H' a ≠ none
  own : ∀ a, Own σ' δ' a → Own σ δ a ∨ H a = none

section
variable {K : PySem.W.Frag} {N : Nm} {σ σ' σ'' : L2.St} {δ δ' δ'' : Env} {Hb Hb' Hb'' H H' H'' : Hp}
theorem Cnt.mono (e : Ex Hb Hb') {o : HO} {d : D} : Cnt K N Hb o d → Cnt K N Hb' o d
  | .lst r => .lst (r.mono e)
  | .dct r => .dct (r.mono e)
  | .dtt r => .dtt (r.mono e)
  | .ins c r => .ins c (r.mono e)
theorem Stp.refl : Stp σ δ Hb H σ δ Hb H := ⟨Ex.refl _, fun _ h _ => .inl h, fun _ _ h _ => h, fun _ h => h, fun _ h => .inl h⟩
theorem ne_none {α : Type} {x : Option α} {y : α} (h : x = some y) : x ≠ none := fun z => by rw [h] at z; cases z
theorem Stp.trans (a : Stp σ δ Hb H σ' δ' Hb' H') (b : Stp σ' δ' Hb' H' σ'' δ'' Hb'' H'') : Stp σ δ Hb H σ'' δ'' Hb'' H'' where
  hb := a.hb.trans b.hb
  fresh := fun x h n => by
    rcases a.fresh x h n with h1 | h1
    · rcases b.fresh x h1 (a.dom x n) with h2 | h2
      · exact .inl h2
      · rcases a.own x h2 with h3 | h3
        · exact .inr h3
        · exact absurd h3 n
    · exact .inr h1
  frame := fun x o h n => by
    refine b.frame x o (a.frame x o h n) fun z => ?_
    rcases a.own x z with h1 | h1
    · exact n h1
    · rw [h] at h1; cases h1
  dom := fun x h => b.dom x (a.dom x h)
  own := fun x h => by
    rcases b.own x h with h1 | h1
    · exact a.own x h1
    · exact .inr (by
        cases q : H x with
        | none => rfl
        | some o => exact absurd h1 (a.dom x (ne_none q)))
/-- a new object is laid, not yet known as data -/
theorem Good.laid (g : Good K N σ δ Hb H) {p : Addr} {o : HO} (h : H p = none) : Good K N σ δ Hb (upd H p o) where
  ex := g.ex.trans (Ex.new h)
  dat := g.dat
  own := fun i d e => by
    obtain ⟨q, u, a, b, c, r⟩ := g.own i d e
    exact ⟨q, u, a, b, by rw [upd_ne (ne_of_none c h)]; exact c, r⟩
  sep := g.sep
  len := g.len
theorem Stp.laid {p : Addr} {o : HO} (h : H p = none) : Stp σ δ Hb H σ δ Hb (upd H p o) :=
  ⟨Ex.refl _, fun _ e _ => .inl e, fun a u e _ => Ex.new h a u e, fun a e => by
    obtain ⟨u, hu⟩ := Option.ne_none_iff_exists'.mp e
    exact ne_none (Ex.new h a u hu), fun _ e => .inl e⟩
/-- more is known as data: what stands at p, which no slot owns -/
theorem Good.froz (g : Good K N σ δ Hb H) {p : Addr} {o : HO} (h : H p = some o) (hb : Hb p = none) (ho : ¬ Own σ δ p) : Good K N σ δ (upd Hb p o) H where
  ex := fun a u e => by
    by_cases q : a = p
    · subst q; rw [upd_same] at e; cases e; exact h
    · rw [upd_ne q] at e; exact g.ex a u e
  dat := fun i d e => by
    obtain ⟨v, a, r⟩ := g.dat i d e
    exact ⟨v, a, r.mono (Ex.new hb)⟩
  own := fun i d e => by
    obtain ⟨q, u, a, b, c, r⟩ := g.own i d e
    refine ⟨q, u, a, ?_, c, r.mono (Ex.new hb)⟩
    rw [upd_ne (fun z => ho ⟨i, d, e, by rw [← z]; exact a⟩)]; exact b
  sep := g.sep
  len := g.len
end

/-! ### results -/
inductive R where
  | dat (d : D) | own (d : D) | bor (i : Nat)
  deriving Inhabited
inductive Res (α : Type) where
  | ok (a : α) (δ : Env) | ex (c : Str) (fs : List (Str × D)) (δ : Env)
abbrev M (α : Type) := Env → Option (Res α)
def M.ret {α : Type} (a : α) : M α := fun δ => some (.ok a δ)
def M.bnd {α β : Type} (x : M α) (f : α → M β) : M β := fun δ =>
  match x δ with
  | none => none
  | some (.ok a δ') => f a δ'
  | some (.ex c fs δ') => some (.ex c fs δ')
def M.stuck {α : Type} : M α := fun _ => none
instance : Monad M where
  pure := M.ret
  bind := M.bnd
def M.opt {α : Type} (o : Option α) : M α := fun δ => match o with
  | some a => some (.ok a δ)
  | none => none
theorem M.bnd_ok {α β : Type} {x : M α} {f : α → M β} {δ : Env} {r : Res β} (h : M.bnd x f δ = some r) :
    (∃ a δ', x δ = some (.ok a δ') ∧ f a δ' = some r) ∨ (∃ c fs δ', x δ = some (.ex c fs δ') ∧ r = .ex c fs δ') := by
  unfold M.bnd at h
  cases e : x δ with
  | none => rw [e] at h; cases h
  | some y =>
    rw [e] at h
    cases y with
    | ok a δ' => exact .inl ⟨a, δ', rfl, h⟩
    | ex c fs δ' => exact .inr ⟨c, fs, δ', rfl, (Option.some.inj h).symm⟩
theorem M.opt_ok {α : Type} {o : Option α} {δ : Env} {r : Res α} (h : M.opt o δ = some r) : ∃ a, o = some a ∧ r = .ok a δ := by
  unfold M.opt at h
  cases o with
  | none => cases h
  | some a => exact ⟨a, rfl, (Option.some.inj h).symm⟩

/-- a result's value: H0 the heap ahead of it -/
def RR (K : PySem.W.Frag) (N : Nm) (σ : L2.St) (δ : Env) (Hb H0 H : Hp) (v : V) : R → Prop
  | .dat d => Rep K N Hb v d
  | .own d => ∃ p o, v = .ref p ∧ H0 p = none ∧ Hb p = none ∧ H p = some o ∧ Cnt K N Hb o d ∧ ¬ Own σ δ p
  | .bor i => σ[i]? = some (some v)
/-- what a statement hands back: H0 the heap ahead of it, with the slots σ0 δ0 -/
def RT (K : PySem.W.Frag) (N : Nm) (σ0 : L2.St) (δ0 : Env) (H0 : Hp) (σ : L2.St) (δ : Env) (Hb H : Hp) (v : V) : R → Prop
  | .dat d => Rep K N Hb v d
  | .own d => ∃ p o, v = .ref p ∧ (H0 p = none ∨ Own σ0 δ0 p) ∧ Hb p = none ∧ H p = some o ∧ Cnt K N Hb o d ∧ ¬ Own σ δ p
  | .bor _ => False

/-- an exception in the air: its class, its own dict -/
def XR (K : PySem.W.Frag) (N : Nm) (Hb : Hp) (cv : Value) (dd : Option Addr) (c : Str) (fs : List (Str × D)) : Prop :=
  ∃ C, N.cls c = some C ∧ cv = .ref C ∧ ((dd = none ∧ fs = []) ∨ ∃ d xs, dd = some d ∧ Hb d = some (.xd xs) ∧ RepF K N Hb xs fs)

/-! ### canonical readings -/
section
variable (X : Cx)
def cE (e : Expr) : TE := fun σ H Q => ∀ pins s, Inv X pins σ H s → wpAny (model X.prog X.w) X.A (eval e X.env) (EP X pins σ Q) X.xe s
def cT (e : Expr) : TT := fun σ H Q => ∀ pins s, Inv X pins σ H s → wpAny (model X.prog X.w) X.A (isTrue e X.env (eval e X.env)) (TP X pins σ Q) X.xe s
def cA (es : List Expr) : TA := fun σ H Q => ∀ (pos : Pos) pins s, Inv X pins σ H s → wpAny (model X.prog X.w) X.A (spliced (backTo pos (starEach es X.env))) (AP X pins σ Q) X.xe s
def cS (st : Stmt) : TS := fun D σ H => ∀ pins s, Inv X pins σ H s → wpAny (model X.prog X.w) X.A (exec st X.env) (SP X pins D) X.xe s
def cSs (st : List Stmt) : TS := fun D σ H => ∀ pins s, Inv X pins σ H s → wpAny (model X.prog X.w) X.A (execs st X.env) (SP X pins D) X.xe s
end
section
variable {X : Cx}
theorem pe_c (e : Expr) : PE X e (cE X e) := ⟨fun pins s σ H Q I h => h pins s I⟩
theorem pt_c (e : Expr) : PT X e (cT X e) := ⟨fun pins s σ H Q I h => h pins s I⟩
theorem pa_c (e : List Expr) : PA X e (cA X e) := ⟨fun pos pins s σ H Q I h => h pos pins s I⟩
theorem ps_c (e : Stmt) : PS X e (cS X e) := ⟨fun pins s σ H D I h => h pins s I⟩
theorem pss_c (e : List Stmt) : PSs X e (cSs X e) := ⟨fun pins s σ H D I h => h pins s I⟩
theorem cE_of {e : Expr} {t : TE} (h : PE X e t) {σ : L2.St} {H : Hp} {Q : VK} (q : t σ H Q) : cE X e σ H Q := fun pins s I => h.run pins s σ H Q I q
theorem cT_of {e : Expr} {t : TT} (h : PT X e t) {σ : L2.St} {H : Hp} {Q : Bool → Hp → Prop} (q : t σ H Q) : cT X e σ H Q := fun pins s I => h.run pins s σ H Q I q
theorem cA_of {e : List Expr} {t : TA} (h : PA X e t) {σ : L2.St} {H : Hp} {Q : List V → Hp → Prop} (q : t σ H Q) : cA X e σ H Q := fun pos pins s I => h.run pos pins s σ H Q I q
theorem cS_of {e : Stmt} {t : TS} (h : PS X e t) {σ : L2.St} {H : Hp} {D : Ends} (q : t D σ H) : cS X e D σ H := fun pins s I => h.run pins s σ H D I q
theorem cSs_of {e : List Stmt} {t : TS} (h : PSs X e t) {σ : L2.St} {H : Hp} {D : Ends} (q : t D σ H) : cSs X e D σ H := fun pins s I => h.run pins s σ H D I q
theorem cE_mono {e : Expr} {σ : L2.St} {H : Hp} {Q Q' : VK} (h : cE X e σ H Q) (m : ∀ v H', Q v H' → Q' v H') : cE X e σ H Q' := fun pins s I =>
  thn (h pins s I) fun _ _ ⟨v, H', a, b, c⟩ => ⟨v, H', a, b, m v H' c⟩
end

/-! ### judgements -/
/-- what follows an expression -/
def EPost (K : PySem.W.Frag) (N : Nm) (W : WX) (σ : L2.St) (δ : Env) (Hb H : Hp) (Q : VK) : Res R → Prop
  | .ok r δ' => ∀ v Hb' H', Stp σ δ Hb H σ δ' Hb' H' → Good K N σ δ' Hb' H' → RR K N σ δ' Hb' H H' v r → Q v H'
  | .ex c fs δ' => ∀ cv dd Hb' H', Stp σ δ Hb H σ δ' Hb' H' → Good K N σ δ' Hb' H' → XR K N Hb' cv dd c fs → W cv dd σ H'
def EJ (N : Nm) (X : Cx) (e : Expr) (m : M R) : Prop :=
  ∀ δ res, m δ = some res → ∀ (W : WX) σ Hb H Q, Takes X W → Good X.K N σ δ Hb H → EPost X.K N W σ δ Hb H Q res → cE X e σ H Q
/-- what follows a list of arguments: the results as they stand behind the last (data or borrowed) -/
def adr : V → Addr
  | .ref a => a
  | _ => 0
/-- the addresses of the owned ones -/
def ownA : List V → List R → List Addr
  | v :: vs, .own _ :: rs => adr v :: ownA vs rs
  | _ :: vs, _ :: rs => ownA vs rs
  | _, _ => []
inductive RRl (K : PySem.W.Frag) (N : Nm) (σ : L2.St) (δ : Env) (Hb H0 H : Hp) : List V → List R → Prop
  | nil : RRl K N σ δ Hb H0 H [] []
  | cons {v : V} {r : R} {vs : List V} {rs : List R} : RR K N σ δ Hb H0 H v r → RRl K N σ δ Hb H0 H vs rs → RRl K N σ δ Hb H0 H (v :: vs) (r :: rs)
def RRs (K : PySem.W.Frag) (N : Nm) (σ : L2.St) (δ : Env) (Hb H0 H : Hp) (vs : List V) (rs : List R) : Prop := RRl K N σ δ Hb H0 H vs rs ∧ (ownA vs rs).Nodup
def APost (K : PySem.W.Frag) (N : Nm) (W : WX) (σ : L2.St) (δ : Env) (Hb H : Hp) (Q : List V → Hp → Prop) : Res (List R) → Prop
  | .ok r δ' => ∀ v Hb' H', Stp σ δ Hb H σ δ' Hb' H' → Good K N σ δ' Hb' H' → RRs K N σ δ' Hb' H H' v r → Q v H'
  | .ex c fs δ' => ∀ cv dd Hb' H', Stp σ δ Hb H σ δ' Hb' H' → Good K N σ δ' Hb' H' → XR K N Hb' cv dd c fs → W cv dd σ H'
def AJ (N : Nm) (X : Cx) (es : List Expr) (m : M (List R)) : Prop :=
  ∀ δ res, m δ = some res → ∀ (W : WX) σ Hb H Q, Takes X W → Good X.K N σ δ Hb H → APost X.K N W σ δ Hb H Q res → cA X es σ H Q
def TPost (K : PySem.W.Frag) (N : Nm) (W : WX) (σ : L2.St) (δ : Env) (Hb H : Hp) (Q : Bool → Hp → Prop) : Res Bool → Prop
  | .ok r δ' => ∀ Hb' H', Stp σ δ Hb H σ δ' Hb' H' → Good K N σ δ' Hb' H' → Q r H'
  | .ex c fs δ' => ∀ cv dd Hb' H', Stp σ δ Hb H σ δ' Hb' H' → Good K N σ δ' Hb' H' → XR K N Hb' cv dd c fs → W cv dd σ H'
def TJ (N : Nm) (X : Cx) (e : Expr) (m : M Bool) : Prop :=
  ∀ δ res, m δ = some res → ∀ (W : WX) σ Hb H Q, Takes X W → Good X.K N σ δ Hb H → TPost X.K N W σ δ Hb H Q res → cT X e σ H Q
/-- a statement's ends -/
inductive Fl where
  | nx | rt (r : R)
/-- what follows a statement; keep: the slots that are never stored to (the parameters that are changed for the caller) -/
def SPost (K : PySem.W.Frag) (N : Nm) (keep : Nat → Bool) (W : WX) (σ : L2.St) (δ : Env) (Hb H : Hp) (E : Ends) : Res Fl → Prop
  | .ok .nx δ' => ∀ σ' Hb' H', Stp σ δ Hb H σ' δ' Hb' H' → Good K N σ' δ' Hb' H' → (∀ i, keep i = true → σ'[i]? = σ[i]?) → E.nx σ' H'
  | .ok (.rt r) δ' => ∀ v σ' Hb' H', Stp σ δ Hb H σ' δ' Hb' H' → Good K N σ' δ' Hb' H' → (∀ i, keep i = true → σ'[i]? = σ[i]?) → RT K N σ δ H σ' δ' Hb' H' v r → E.rt v H'
  | .ex c fs δ' => ∀ cv dd σ' Hb' H', Stp σ δ Hb H σ' δ' Hb' H' → Good K N σ' δ' Hb' H' → (∀ i, keep i = true → σ'[i]? = σ[i]?) → XR K N Hb' cv dd c fs → W cv dd σ' H'
def SJ (N : Nm) (X : Cx) (keep : Nat → Bool) (st : Stmt) (m : M Fl) : Prop :=
  ∀ δ res, m δ = some res → ∀ (W : WX) σ Hb H E, Takes X W → Good X.K N σ δ Hb H → SPost X.K N keep W σ δ Hb H E res → cS X st E σ H
def SsJ (N : Nm) (X : Cx) (keep : Nat → Bool) (st : List Stmt) (m : M Fl) : Prop :=
  ∀ δ res, m δ = some res → ∀ (W : WX) σ Hb H E, Takes X W → Good X.K N σ δ Hb H → SPost X.K N keep W σ δ Hb H E res → cSs X st E σ H
end Rl

set_option Elab.async false
set_option linter.all false
set_option maxRecDepth 100000
set_option maxHeartbeats 4000000
/-! Lay C: the small language and its interpreter over plain data. -/
namespace Rl
open PySem L2

/-! ### syntax -/
inductive BO where | add | sub | mul | fdiv | mod | pow
  deriving DecidableEq
inductive CO where | eq | ne | lt | le | gt | ge | is | isn | inn | nin
  deriving DecidableEq
inductive Ty where | int | bool | str | tuple | list | dict | cls (c : Str)
  deriving DecidableEq
inductive Bl where | len | abs | max | sum | all | any | list | tuple | dict | int | str
  deriving DecidableEq
inductive Bm where | index | get | join | split | strip
  deriving DecidableEq
inductive Sc where | non | bl (b : Bool) | int (i : Int) | str (x : Str)
  deriving DecidableEq
/-- a target: a name, or names in a tuple -/
inductive MG where | one (i : Nat) | many (l : List Nat)
  deriving DecidableEq
mutual
inductive ME where
  | var (i : Nat) | cst (c : Sc) | glb (x : Str) | fnv (x : Str)
  | bop (o : BO) (a b : ME) | neg (a : ME) | not (a : ME) | and (a b : ME) | or (a b : ME)
  | cmp (o : CO) (a b : ME) | chn (o p : CO) (a b c : ME) | ife (c a b : ME)
  | tup (l : List ME) | lst (l : List ME) | dic (l : List (ME × ME)) | dnt
  | idx (a i : ME) | slc (a : ME) (lo hi : List ME) | rev (a : ME) | att (a : ME) (f : Str)
  | cal (f : Str) (l : List ME) | clv (i : Nat) (l : List ME) | new (c : Str) (l : List ME) | mth (c m : Str) (o : ME) (l : List ME)
  | blt (b : Bl) (l : List ME) | isi (a : ME) (t : Ty) | bmt (b : Bm) (o : ME) (l : List ME) | pop (i : Nat)
  | lc (el : ME) (tg : MG) (it : MI) (cd : List ME) (own : List (Str × Nat))
  | dc (k v : ME) (tg : MG) (it : MI) (cd : List ME) (own : List (Str × Nat))
  | fst (l : List ME)
inductive MI where
  | seq (e : ME) | rg1 (e : ME) | rg2 (a b : ME) | enu (e : ME) | zip (a b : ME) | its (e : ME)
end
/-- what an except suite stores: a constant, the error's field, a list of such -/
inductive HA where | cst (c : Sc) | fld (f : Str)
inductive HX where | at (a : HA) | lst (l : List HA)
/-- an except clause: its class, its name's slot, the slot that is stored to -/
structure HC where
  cls : Str
  nm : Option Nat
  to : Nat
  e : HX
inductive MT where | nm (i : Nat) | sb (i : Nat) (ix : ME)
inductive MS where
  | set (i : Nat) (e : ME) | par (ts : List MT) (es : List ME) | unp (l : List Nat) (e : ME)
  | sto (i : Nat) (ix e : ME) | fld (i : Nat) (f : Str) (e : ME) | aug (i : Nat) (o : BO) (e : ME) | auf (i : Nat) (f : Str) (o : BO) (e : ME)
  | app (i : Nat) (e : ME) | exp (e : ME) | ite (c : ME) (a b : List MS) | whl (c : ME) (b : List MS) | fr (tg : MG) (it : MI) (b : List MS)
  | ret (e : ME) | rtn | rai (c : Str) (l : List ME) | tri (b : List MS) (hs : List HC) | nev | pas

/-! ### the operations, over plain data -/
mutual
def toPy : D → Option PyData
  | .non => some .none
  | .bl b => some (.bool b)
  | .int i => some (.int i)
  | .str x => some (.str x)
  | .tup l => (toPys l).map .tuple
  | .lst l => (toPys l).map .list
  | _ => none
def toPys : List D → Option (List PyData)
  | [] => some []
  | d :: r => match toPy d, toPys r with
    | some a, some b => some (a :: b)
    | _, _ => none
end
/-- == of data -/
def eqD (d e : D) : Option Bool :=
  match toPy d, toPy e with
  | some a, some b => if SeqAt.shaped a && SeqAt.shaped b then some (PyData.eqv a b) else none
  | _, _ => none
/-- the list's length is within the line -/
def szOk (n : Nat) : Bool := decide (n ≤ 16777216)
def mulOk (i j : Int) : Bool := decide (i.natAbs.log2 + j.natAbs.log2 < 1000000)
def divOk (j : Int) : Bool := decide (j ≠ 0) && decide (j.natAbs.log2 < 9000)
def binD : BO → D → D → Option R
  | .add, .int i, .int j => some (.dat (.int (i + j)))
  | .add, .str x, .str y => if szOk (x.length + y.length) then some (.dat (.str (x ++ y))) else none
  | .add, .lst x, .lst y => if szOk (x.length + y.length) then some (.own (.lst (x ++ y))) else none
  | .add, .tup x, .tup y => if szOk (x.length + y.length) then some (.dat (.tup (x ++ y))) else none
  | .sub, .int i, .int j => some (.dat (.int (i - j)))
  | .mul, .int i, .int j => if mulOk i j then some (.dat (.int (i * j))) else none
  | .mul, .tup x, .int j => if !x.isEmpty && decide (2 ≤ j) && decide (j ≤ 1000) && decide (x.length ≤ 1000) then some (.dat (.tup (List.replicate j.toNat x).flatten)) else none
  | .fdiv, .int i, .int j => if divOk j then some (.dat (.int (i.fdiv j))) else none
  | .mod, .int i, .int j => if decide (j ≠ 0) then some (.dat (.int (i.fmod j))) else none
  | .pow, .int i, .int j => if decide (0 ≤ j) && decide (j ≤ 1000000) && decide (i.natAbs < 2 ^ 64) then some (.dat (.int (i ^ j.toNat))) else none
  | _, _, _ => none
def flatD : D → Bool
  | .non => true | .bl _ => true | .int _ => true | .str _ => true | _ => false
def scV : D → Option V
  | .non => some .non | .bl b => some (.bl b) | .int i => some (.int i) | .str x => some (.str x) | _ => none
/-- == of two flat things -/
def eqF (d e : D) : Bool := match scV d, scV e with
  | some v, some u => L2.eqV v u
  | _, _ => false
def inD (x : D) (l : List D) : Option Bool := if flatD x && l.all flatD then some (l.any fun y => eqF y x) else none
def keyD : D → Option Key
  | .int i => some (.inl i)
  | .str x => some (.inr x)
  | _ => none
def keysD : List D → Option (List Key)
  | [] => some []
  | d :: r => match keyD d, keysD r with
    | some a, some b => some (a :: b)
    | _, _ => none
def kD : Key → D
  | .inl i => .int i
  | .inr x => .str x
def getK {κ : Type} [DecidableEq κ] (kvs : List (κ × D)) (k : κ) : Option D := (kvs.find? fun kv => decide (kv.1 = k)).map (·.2)
def putKD {κ : Type} [DecidableEq κ] (kvs : List (κ × D)) (k : κ) (v : D) : List (κ × D) :=
  if (kvs.any fun kv => decide (kv.1 = k)) = true then kvs.map (fun kv => if kv.1 = k then (kv.1, v) else kv) else kvs ++ [(k, v)]
def isNon : D → Bool
  | .non => true
  | _ => false
def notO : Option Bool → Option Bool
  | some b => some (!b)
  | none => none
def cmpD : CO → D → D → Option Bool
  | .eq, d, e => eqD d e
  | .ne, d, e => notO (eqD d e)
  | .lt, .int i, .int j => some (decide (i < j))
  | .le, .int i, .int j => some (decide (i ≤ j))
  | .gt, .int i, .int j => some (decide (j < i))
  | .ge, .int i, .int j => some (decide (j ≤ i))
  | .is, d, .non => some (isNon d)
  | .isn, d, .non => some (!isNon d)
  | .inn, d, .lst l => inD d l
  | .inn, d, .tup l => inD d l
  | .inn, d, .ctp l => inD d l
  | .inn, d, .dct l => (keyD d).map fun k => (getK l k).isSome
  | .nin, d, .lst l => notO (inD d l)
  | .nin, d, .tup l => notO (inD d l)
  | .nin, d, .ctp l => notO (inD d l)
  | .nin, d, .dct l => (keyD d).map fun k => !(getK l k).isSome
  | .inn, .str x, .str y => some (!(Builtin.Str.occurrences y x 0 y.length 1).isEmpty)
  | .nin, .str x, .str y => some (!(!(Builtin.Str.occurrences y x 0 y.length 1).isEmpty))
  | _, _, _ => none
def idxD : D → D → Option D
  | .lst l, .int i => atI l i
  | .scr l, .int i => atI l i
  | .tup l, .int i => atI l i
  | .str x, .int i => if szOk x.length then (atI x.cps.toList i).map fun c => .str ⟨#[c]⟩ else none
  | .dct l, d => match keyD d with
    | some k => getK l k
    | none => none
  | .dtt l, .tup ds => match keysD ds with
    | some k => getK l k
    | none => none
  | _, _ => none
def cutD {α : Type} (xs : List α) (lo hi : Option Int) : List α := (xs.drop (HT.sIx xs.length 0 lo)).take (HT.sIx xs.length xs.length hi - HT.sIx xs.length 0 lo)
def slcD : D → Option Int → Option Int → Option R
  | .lst l, lo, hi => some (.own (.lst (cutD l lo hi)))
  | .tup l, lo, hi => some (.dat (.tup (cutD l lo hi)))
  | _, _, _ => none
def intsD : List D → Option (List Int)
  | [] => some []
  | .int i :: r => (intsD r).map (i :: ·)
  | _ :: _ => none
def blsD : List D → Option (List Bool)
  | [] => some []
  | .bl i :: r => (blsD r).map (i :: ·)
  | _ :: _ => none
def strsD : List D → Option (List Str)
  | [] => some []
  | .str i :: r => (strsD r).map (i :: ·)
  | _ :: _ => none
def maxI : List Int → Option Int
  | [] => none
  | [i] => some i
  | i :: r => (maxI r).map fun m => if i < m then m else i
def bltD : Bl → List D → Option R
  | .len, [.lst l] => some (.dat (.int l.length))
  | .len, [.scr l] => some (.dat (.int l.length))
  | .len, [.tup l] => some (.dat (.int l.length))
  | .len, [.str x] => if szOk x.length then some (.dat (.int x.length)) else none
  | .len, [.dct l] => some (.dat (.int l.length))
  | .abs, [.int i] => some (.dat (.int (if i < 0 then -i else i)))
  | .max, [.int i, .int j] => some (.dat (.int (if j > i then j else i)))
  | .max, [.lst l] => match intsD l with
    | some ns => (maxI ns).map fun m => .dat (.int m)
    | none => none
  | .sum, [.lst l] => (intsD l).map fun ns => .dat (.int ns.sum)
  | .sum, [.tup l] => (intsD l).map fun ns => .dat (.int ns.sum)
  | .all, [.lst l] => (blsD l).map fun bs => .dat (.bl (bs.all id))
  | .any, [.lst l] => (blsD l).map fun bs => .dat (.bl (bs.any id))
  | .list, [.lst l] => some (.own (.lst l))
  | .list, [.tup l] => some (.own (.lst l))
  | .list, [.dct l] => some (.own (.lst (l.map fun kv => kD kv.1)))
  | .tuple, [.lst l] => some (.dat (.tup l))
  | .tuple, [.tup l] => some (.dat (.tup l))
  | .dict, [.dct l] => some (.own (.dct l))
  | .int, [.int i] => some (.dat (.int i))
  | .str, [.int i] => if decide (i.natAbs.log2 < 1920) then some (.dat (.str (toString i))) else none
  | .str, [.str x] => some (.dat (.str x))
  | _, _ => none
def tyD : D → Option String
  | .non => some "NoneType" | .bl _ => some "bool" | .int _ => some "int" | .str _ => some "str" | .tup _ => some "tuple" | .lst _ => some "list" | .dct _ => some "dict" | .dtt _ => some "dict"
  | _ => none
def tyN : Ty → Option String
  | .int => some "int" | .bool => some "bool" | .str => some "str" | .tuple => some "tuple" | .list => some "list" | .dict => some "dict" | .cls _ => none
def isiD (d : D) (t : Ty) : Option Bool := match d, t with
  | .ins c _, .cls c' => if c = c' then some true else none
  | d, .cls _ => match tyD d with
    | some _ => some false
    | none => none
  | d, t => match tyD d, tyN t with
    | some a, some b => some (decide (a = b) || (decide (a = "bool") && decide (b = "int")))
    | _, _ => none
def indexD (l : List D) (x : D) : Option Nat := if flatD x && l.all flatD then l.findIdx? fun y => eqF y x else none
def bmtD : Bm → D → List D → Option R
  | .index, .lst l, [x] => (indexD l x).map fun (n : Nat) => .dat (.int (n : Int))
  | .get, .dct l, [k, d] => (keyD k).map fun k => .dat ((getK l k).getD d)
  | .get, .dtt l, [.tup k, d] => (keysD k).map fun k => .dat ((getK l k).getD d)
  | .join, .str a, [.lst l] => match strsD l with
    | some ys => if szOk ((ys.map (·.length)).sum + ys.length * a.length) then some (.dat (.str (Txt.join a ys))) else none
    | none => none
  | .split, .str a, [.str b] => if b.length == 0 || !szOk (a.length + 2) then none else some (.own (.lst ((Txt.split a b).map .str)))
  | _, _, _ => none
/-- the method belongs to the kind -/
def kindD : Bm → D → Option Unit
  | .index, .lst _ => some ()
  | .get, .dct _ => some ()
  | .get, .dtt _ => some ()
  | .join, .str _ => some ()
  | .split, .str _ => some ()
  | _, _ => none
def negD : D → Option R
  | .int i => some (.dat (.int (-i)))
  | _ => none
def revD : D → Option R
  | .lst l => some (.own (.lst l.reverse))
  | _ => none
def isSc : D → Bool := flatD
def fldD (fs : List (Str × D)) (f : Str) : Option D := fs.lookup f
def putFD (f : Str) (v : D) : List (Str × D) → List (Str × D)
  | [] => [(f, v)]
  | (g, u) :: r => if g = f then (g, v) :: r else (g, u) :: putFD f v r

/-! ### what a def is worth -/
inductive Out where
  | ret (own : Bool) (d : D) (args : List D)
  | ex (c : Str) (fs : List (Str × D)) (args : List D)
structure FI where
  mask : List Bool
  sem : List D → Option Out
structure Cfg where
  fns : Str → Option FI
  glb : Str → Option D
  mth : Str → Str → Option FI
  prp : Str → Str → Option FI
  ini : Str → Option FI
  /-- an exception's class: its fields -/
  exc : Str → Option (List Str)
  /-- the attributes of a class, by name -/
  flds : Str → Option (List Str)
  /-- the classes that clauses name; which takes which -/
  hcl : Str → Bool := fun _ => false
  exm : Str → Str → Option Bool := fun _ _ => none

/-! ### the interpreter -/
def vw (δ : Env) : R → Option D
  | .dat d => some d
  | .own d => some d
  | .bor i => match δ[i]? with
    | some (some (.dat d)) => some d
    | some (some (.own d)) => some d
    | _ => none
def vws (δ : Env) : List R → Option (List D)
  | [] => some []
  | r :: rs => match vw δ r, vws δ rs with
    | some a, some b => some (a :: b)
    | _, _ => none
/-- look at a result, by its data -/
def look {α : Type} (r : R) (f : D → Option α) : M α := fun δ => match vw δ r with
  | some d => (f d).map fun a => .ok a δ
  | none => none
def look2 {α : Type} (r s : R) (f : D → D → Option α) : M α := fun δ => match vw δ r, vw δ s with
  | some d, some e => (f d e).map fun a => .ok a δ
  | _, _ => none
def looks {α : Type} (r : List R) (f : List D → Option α) : M α := fun δ => match vws δ r with
  | some d => (f d).map fun a => .ok a δ
  | none => none
/-- as data that stays: an owned thing is given up -/
def give (r : R) : M D := fun δ => match r with
  | .dat d => some (.ok d δ)
  | .own d => some (.ok d δ)
  | .bor i => match δ[i]? with
    | some (some (.dat d)) => some (.ok d δ)
    | some (some (.own d)) => some (.ok d (δ.set i (some (.dat d))))
    | _ => none
def gives : List R → M (List D)
  | [] => M.ret []
  | r :: rs => M.bnd (give r) fun d => M.bnd (gives rs) fun ds => M.ret (d :: ds)
/-- arguments: at mask the owned things of slots, whose contents the call may change -/
def ins (δ : Env) : List Bool → List R → Option (List D)
  | [], [] => some []
  | true :: ms, .bor i :: rs => match δ[i]?, ins δ ms rs with
    | some (some (.own d)), some ds => some (d :: ds)
    | _, _ => none
  | false :: ms, .dat d :: rs => (ins δ ms rs).map (d :: ·)
  | _, _ => none
def slotsAt : List Bool → List R → List Nat
  | true :: ms, .bor i :: rs => i :: slotsAt ms rs
  | _ :: ms, _ :: rs => slotsAt ms rs
  | _, _ => []
def outs (δ : Env) : List Nat → List D → Option Env
  | [], [] => some δ
  | i :: is, d :: ds => outs (δ.set i (some (.own d))) is ds
  | _, _ => none
/-- the results that are not handed on to be changed are given up -/
def giveAt : List Bool → List R → M (List R)
  | [], [] => M.ret []
  | true :: ms, .bor i :: rs => M.bnd (giveAt ms rs) fun l => M.ret (.bor i :: l)
  | false :: ms, r :: rs => M.bnd (give r) fun d => M.bnd (giveAt ms rs) fun l => M.ret (.dat d :: l)
  | _, _ => M.stuck
/-- a call that changes no argument and hands back a flat thing: owned things stay owned -/
def callPure (fi : FI) (rs : List R) : M R := fun δ => if fi.mask.all (!·) && decide (fi.mask.length = rs.length) then match vws δ rs with
    | some ds => match fi.sem ds with
      | some (.ret _ d []) => if flatD d then some (.ok (.dat d) δ) else none
      | _ => none
    | none => none
  else none
def callMut (fi : FI) (rs : List R) : M R := M.bnd (giveAt fi.mask rs) fun rs => fun δ => match ins δ fi.mask rs with
  | some ds => if (slotsAt fi.mask rs).Nodup then match fi.sem ds with
    | some (.ret w d as) => (outs δ (slotsAt fi.mask rs) as).map fun δ' => .ok (if w then .own d else .dat d) δ'
    | some (.ex c fs as) => (outs δ (slotsAt fi.mask rs) as).map fun δ' => .ex c fs δ'
    | none => none else none
  | none => none
def callR (fi : FI) (rs : List R) : M R := fun δ => match callPure fi rs δ with
  | some r => some r
  | none => callMut fi rs δ
/-- a new instance -/
def newR (fi : FI) (c : Str) (ds : List D) : M R := fun δ => if fi.mask = true :: List.replicate ds.length false then match fi.sem (.ins c [] :: ds) with
  | some (.ret false .non [d]) => some (.ok (.own d) δ)
  | some (.ex c fs [_]) => some (.ex c fs δ)
  | _ => none
  else none
/-- it is an instance of the class -/
def isCD (c m : Str) : D → Option Unit
  | .ins c' fs => if c' = c ∧ fs.lookup m = none then some () else none
  | _ => none
def isC (c m : Str) (x : R) : M Unit := look x (isCD c m)
def setG (tg : MG) (d : D) (δ : Env) : Option Env := match tg with
  | .one i => if i < δ.length then some (δ.set i (some (.dat d))) else none
  | .many l => match d with
    | .tup ds => if ds.length = l.length ∧ ∀ i ∈ l, i < δ.length then some ((l.zip ds).foldl (fun δ p => δ.set p.1 (some (.dat p.2))) δ) else none
    | _ => none
def wipeD (δ : Env) : List Nat → Env
  | [] => δ
  | i :: r => (wipeD δ r).set i none
/-- the comprehension's own slots as they were, all else as it is now -/
def backD (δ0 δ1 : Env) : List Nat → Env
  | [] => δ1
  | i :: r => (backD δ0 δ1 r).set i (δ0.getD i none)
def ownAt (δ : Env) (i : Nat) : Bool := match δ[i]? with
  | some (some (.own _)) => true
  | _ => false
def noEx {α : Type} (x : Option (Res α)) : Option (α × Env) := match x with
  | some (.ok a δ) => some (a, δ)
  | _ => none
def compLoop {α : Type} (turn : D → M (Option α)) (vs : List Nat) : List D → Env → List α → Option (List α × Env)
  | [], δ, acc => some (acc, δ)
  | d :: r, δ, acc => match noEx (turn d (wipeD δ vs)) with
    | some (some a, δ') => compLoop turn vs r δ' (acc ++ [a])
    | some (none, δ') => compLoop turn vs r δ' acc
    | none => none
def comp {α : Type} (turn : D → M (Option α)) (vs : List Nat) (items : List D) : M (List α) := fun δ =>
  if vs.any (ownAt δ) then none else match compLoop turn vs items δ [] with
  | some (l, δ') => some (.ok l (backD δ δ' vs))
  | none => none
def rangeD (a b : Int) : List D := (List.range (b - a).toNat).map fun k => .int (a + (k : Nat))
def enumD (l : List D) (n : Nat) : List D := match l with
  | [] => []
  | d :: r => .tup [.int n, d] :: enumD r (n + 1)
def rngOk (i : Int) : Bool := decide (-(2 ^ 62) ≤ i) && decide (i < 2 ^ 62)
def seqD : D → Option (List D)
  | .lst l => some l
  | .tup l => some l
  | .ctp l => some l
  | _ => none
def rg1D : D → Option (List D)
  | .int i => if rngOk i then some (rangeD 0 i) else none
  | _ => none
def rg2D : D → D → Option (List D)
  | .int i, .int j => if rngOk i && rngOk j then some (rangeD i j) else none
  | _, _ => none
def zipL : List D → Option (List D)
  | [.lst x, .lst y] => some ((x.zip y).map fun p => .tup [p.1, p.2])
  | [.tup x, .tup y] => some ((x.zip y).map fun p => .tup [p.1, p.2])
  | _ => none
def itsD : D → Option (List D)
  | .dtt l => some (l.map fun kv => .tup [.tup (kv.1.map kD), kv.2])
  | _ => none
def strOf : D → Option Str
  | .str x => some x
  | .int i => if decide (i.natAbs.log2 < 1920) then some (toString i) else none
  | _ => none
def joinF : List D → Option Str
  | [] => some Str.empty
  | d :: r => match strOf d, joinF r with
    | some a, some b => if szOk (a.length + b.length) then some (a ++ b) else none
    | _, _ => none
def scD : Sc → D
  | .non => .non | .bl b => .bl b | .int i => .int i | .str x => .str x
def boolOf : D → Option Bool
  | .bl b => some b
  | _ => none
def oneInt : List D → Option (Option Int)
  | [] => some none
  | [.int i] => some (some i)
  | _ => none
/-- == of dicts -/
def eqKs (b : List (Key × D)) : List (Key × D) → Option Bool
  | [] => some true
  | (k, d) :: r => match eqKs b r with
    | some t => match getK b k with
      | some e => (eqD d e).map fun s => s && t
      | none => some false
    | none => none
def eqDct (a b : List (Key × D)) : Option Bool := if a.length = b.length then eqKs b a else some false
/-- == and != where an own == is asked, or dicts are -/
def cmpR (cf : Cfg) (o : CO) (x y : R) : M R := fun δ => match vw δ x, vw δ y with
  | some (.ins c fs), some e => match cf.mth c "__eq__", (match e with | .ins c' _ => decide (c' = c) | .lst _ => true | _ => false) with
    | some fi, true => match o, callPure fi [x, y] δ with
      | .eq, some (.ok (.dat (.bl b)) _) => some (.ok (.dat (.bl b)) δ)
      | .ne, some (.ok (.dat (.bl b)) _) => some (.ok (.dat (.bl (!b))) δ)
      | _, _ => none
    | _, _ => none
  | some (.dct a), some (.dct b) => match o with
    | .eq => (eqDct a b).map fun b => .ok (.dat (.bl b)) δ
    | .ne => (eqDct a b).map fun b => .ok (.dat (.bl (!b))) δ
    | _ => none
  | some d, some e => (cmpD o d e).map fun b => .ok (.dat (.bl b)) δ
  | _, _ => none
def tst (m : M R) : M Bool := M.bnd m fun r => look r boolOf
def tsv (m : M R) : M R := M.bnd m fun r => look r fun d => (boolOf d).map fun b => .dat (.bl b)
/-- the turns of comprehensions -/
def lcTurn (tg : MG) (c : M Bool) (e : M R) : D → M (Option D) := fun d δ => match setG tg d δ with
  | some δ => M.bnd c (fun k => if k then M.bnd e fun r => M.bnd (give r) fun d => M.ret (some d) else M.ret none) δ
  | none => none
def dcTurn (tg : MG) (c : M Bool) (k v : M R) : D → M (Option (Key × D)) := fun d δ => match setG tg d δ with
  | some δ => M.bnd c (fun b => if b then M.bnd k fun r => M.bnd (look r keyD) fun key => M.bnd v fun s => M.bnd (give s) fun e => M.ret (some (key, e)) else M.ret none) δ
  | none => none
def dcPut (acc : List (Key × D)) : List (Key × D) → Option (List (Key × D))
  | [] => some acc
  | p :: r => if szOk (acc.length + 1) then dcPut (putKD acc p.1 p.2) r else none
mutual
def evE (cf : Cfg) : ME → M R
  | .var i => fun δ => match δ[i]? with
    | some (some (.dat d)) => some (.ok (.dat d) δ)
    | some (some (.own _)) => some (.ok (.bor i) δ)
    | _ => none
  | .cst c => M.ret (.dat (scD c))
  | .glb x => M.opt ((cf.glb x).map .dat)
  | .fnv x => M.opt ((cf.fns x).map fun _ => .dat (.fn x))
  | .bop o a b => M.bnd (evE cf a) fun x => M.bnd (evE cf b) fun y => look2 x y (binD o)
  | .neg a => M.bnd (evE cf a) fun x => look x negD
  | .not a => M.bnd (tst (evE cf a)) fun b => M.ret (.dat (.bl (!b)))
  | .and a b => M.bnd (tst (evE cf a)) fun c => if c then tsv (evE cf b) else M.ret (.dat (.bl false))
  | .or a b => M.bnd (tst (evE cf a)) fun c => if c then M.ret (.dat (.bl true)) else tsv (evE cf b)
  | .cmp o a b => M.bnd (evE cf a) fun x => M.bnd (evE cf b) fun y => cmpR cf o x y
  | .chn o p a b c => M.bnd (evE cf a) fun x => M.bnd (evE cf b) fun y => M.bnd (look2 x y (cmpD o)) fun k =>
      if k then M.bnd (evE cf c) fun z => M.bnd (look2 y z (cmpD p)) fun k => M.ret (.dat (.bl k)) else M.ret (.dat (.bl false))
  | .ife c a b => M.bnd (tst (evE cf c)) fun k => if k then evE cf a else evE cf b
  | .tup l => M.bnd (evL cf l) fun rs => M.bnd (gives rs) fun ds => if szOk ds.length then M.ret (.dat (.tup ds)) else M.stuck
  | .lst l => M.bnd (evL cf l) fun rs => M.bnd (gives rs) fun ds => if szOk ds.length then M.ret (.own (.lst ds)) else M.stuck
  | .dic l => M.bnd (evKV cf l) fun kvs => M.ret (.own (.dct (kvs.foldl (fun acc p => putKD acc p.1 p.2) [])))
  | .dnt => M.ret (.own (.dtt []))
  | .idx a i => M.bnd (evE cf a) fun x => M.bnd (evE cf i) fun y => look2 x y fun d e => (idxD d e).map .dat
  | .slc a lo hi => M.bnd (evE cf a) fun x => M.bnd (evL cf lo) fun l => M.bnd (looks l oneInt) fun lo => M.bnd (evL cf hi) fun h => M.bnd (looks h oneInt) fun hi =>
      look x fun d => slcD d lo hi
  | .rev a => M.bnd (evE cf a) fun x => look x revD
  | .att a f => M.bnd (evE cf a) fun x => fun δ => match vw δ x with
    | some (.ins c fs) => match cf.prp c f with
      | some fi => match callR fi [x] δ with
        | some (.ok r δ) => some (.ok r δ)
        | _ => none
      | none => match cf.flds c, fs.lookup f with
        | some l, some d => if f ∈ l then some (.ok (.dat d) δ) else none
        | _, _ => none
    | _ => none
  | .cal f l => match cf.fns f with
    | some fi => M.bnd (evL cf l) fun rs => callR fi rs
    | none => M.stuck
  | .clv i l => fun δ => match δ[i]? with
    | some (some (.dat (.fn f))) => match cf.fns f with
      | some fi => M.bnd (evL cf l) (fun rs => callR fi rs) δ
      | none => none
    | _ => none
  | .new c l => match cf.ini c with
    | some fi => M.bnd (evL cf l) fun rs => M.bnd (gives rs) fun ds => newR fi c ds
    | none => M.stuck
  | .mth c m o l => match cf.mth c m with
    | some fi => M.bnd (evE cf o) fun x => M.bnd (isC c m x) fun _ => M.bnd (evL cf l) fun rs => callR fi (x :: rs)
    | none => M.stuck
  | .blt b l => M.bnd (evL cf l) fun rs => looks rs (bltD b)
  | .isi a t => M.bnd (evE cf a) fun x => look x fun d => (isiD d t).map fun b => .dat (.bl b)
  | .bmt b o l => M.bnd (evE cf o) fun x => M.bnd (look x (kindD b)) fun _ => M.bnd (evL cf l) fun rs => M.bnd (gives rs) fun ds => look x fun d => bmtD b d ds
  | .pop i => fun δ => match δ[i]? with
    | some (some (.own (.lst l))) => match l.getLast? with
      | some d => some (.ok (.dat d) (δ.set i (some (.own (.lst l.dropLast)))))
      | none => none
    | _ => none
  | .lc el tg it cd own => M.bnd (evI cf it) fun items => M.bnd (comp (lcTurn tg (evC cf cd) (evE cf el)) (own.map (·.2)) items) fun l => if szOk l.length then M.ret (.own (.lst l)) else M.stuck
  | .dc k v tg it cd own => M.bnd (evI cf it) fun items => M.bnd (comp (dcTurn tg (evC cf cd) (evE cf k) (evE cf v)) (own.map (·.2)) items) fun l => M.opt ((dcPut [] l).map fun kvs => .own (.dct kvs))
  | .fst l => M.bnd (evL cf l) fun rs => looks rs fun ds => (joinF ds).map fun x => .dat (.str x)
def evL (cf : Cfg) : List ME → M (List R)
  | [] => M.ret []
  | e :: l => M.bnd (evE cf e) fun r => M.bnd (evL cf l) fun rs => M.ret (r :: rs)
def evKV (cf : Cfg) : List (ME × ME) → M (List (Key × D))
  | [] => M.ret []
  | (k, v) :: l => M.bnd (evE cf k) fun x => M.bnd (evE cf v) fun y => M.bnd (look x keyD) fun k => M.bnd (give y) fun d =>
      M.bnd (evKV cf l) fun r => M.ret ((k, d) :: r)
def evC (cf : Cfg) : List ME → M Bool
  | [] => M.ret true
  | c :: _ => tst (evE cf c)
def evI (cf : Cfg) : MI → M (List D)
  | .seq e => M.bnd (evE cf e) fun r => M.bnd (give r) fun d => M.opt (seqD d)
  | .rg1 e => M.bnd (evE cf e) fun r => look r rg1D
  | .rg2 a b => M.bnd (evE cf a) fun r => M.bnd (evE cf b) fun s => look2 r s rg2D
  | .enu e => M.bnd (evE cf e) fun r => M.bnd (give r) fun d => M.opt ((seqD d).map (enumD · 0))
  | .zip a b => M.bnd (M.bnd (evE cf a) fun r => M.bnd (M.bnd (evE cf b) fun r => M.bnd (M.ret []) fun rs => M.ret (r :: rs)) fun rs => M.ret (r :: rs)) fun rs => M.bnd (gives rs) fun ds => M.opt (zipL ds)
  | .its e => M.bnd (evE cf e) fun r => M.bnd (give r) fun d => M.opt (itsD d)
end

/-! ### statements -/
def storeD (c : D) (k : D) (v : D) : Option D := match c, k with
  | .lst l, .int i => (ixN l.length i).map fun j => .lst (l.set j v)
  | .dct l, k => match keyD k with
    | some k => if szOk (l.length + 1) then some (.dct (putKD l k v)) else none
    | none => none
  | .dtt l, .tup ds => match keysD ds with
    | some k => if szOk (l.length + 1) then some (.dtt (putKD l k v)) else none
    | none => none
  | _, _ => none
def appD (v : D) : D → Option D
  | .lst l => if decide (l.length < 16777216) then some (.lst (l ++ [v])) else none
  | _ => none
def fldS (cf : Cfg) (f : Str) (v : D) : D → Option D
  | .ins c fs => match cf.flds c with
    | some l => if decide (f ∈ l) && decide (fs.length < 900) then some (.ins c (putFD f v fs)) else none
    | none => none
  | _ => none
/-- the owned thing of slot i is changed -/
def chg (i : Nat) (f : D → Option D) : M Fl := fun δ => match δ[i]? with
  | some (some (.own d)) => (f d).map fun d' => .ok .nx (δ.set i (some (.own d')))
  | _ => none
/-- slot i owns its thing -/
def ownI (i : Nat) : M Unit := fun δ => match δ[i]? with
  | some (some (.own _)) => some (.ok () δ)
  | _ => none
/-- a result goes into slot i -/
def put (keep : Nat → Bool) (i : Nat) (r : R) : M Fl := fun δ => if keep i || decide (δ.length ≤ i) then none else match r with
  | .dat d => some (.ok .nx (δ.set i (some (.dat d))))
  | .own d => some (.ok .nx (δ.set i (some (.own d))))
  | .bor j => M.bnd (give (.bor j)) (fun d δ => some (.ok .nx (δ.set i (some (.dat d))))) δ
/-- borrowed results are given up, owned ones stay -/
def stay : List R → M (List R)
  | [] => M.ret []
  | .bor j :: rs => M.bnd (give (.bor j)) fun d => M.bnd (stay rs) fun l => M.ret (.dat d :: l)
  | r :: rs => M.bnd (stay rs) fun l => M.ret (r :: l)
def putT (cf : Cfg) (keep : Nat → Bool) : List MT → List R → M Fl
  | [], [] => M.ret .nx
  | .nm i :: ts, r :: rs => M.bnd (put keep i r) fun _ => putT cf keep ts rs
  | .sb i ix :: ts, r :: rs => M.bnd (give r) fun v => M.bnd (ownI i) fun _ => M.bnd (evE cf ix) fun k => M.bnd (look k some) fun k => M.bnd (chg i fun c => storeD c k v) fun _ => putT cf keep ts rs
  | _, _ => M.stuck
def noX {α : Type} (m : M α) : M α := fun δ => match m δ with
  | some (.ok a δ') => some (.ok a δ')
  | _ => none
def setN (keep : Nat → Bool) (l : List Nat) (d : D) : M Fl := fun δ =>
  if l.any keep then none else (setG (.many l) d δ).map fun δ => .ok .nx δ
def whlM (c : M Bool) (b : M Fl) : Nat → M Fl
  | 0 => M.stuck
  | n + 1 => M.bnd c fun k => if k then M.bnd b fun | .nx => whlM c b n | .rt r => M.ret (.rt r) else M.ret .nx
def frM (keep : Nat → Bool) (tg : MG) (b : M Fl) : List D → M Fl
  | [] => M.ret .nx
  | d :: r => fun δ => match (match tg with | .one i => keep i | .many l => l.any keep), setG tg d δ with
    | false, some δ => M.bnd b (fun | .nx => frM keep tg b r | .rt r => M.ret (.rt r)) δ
    | _, _ => none
/-- what is handed back: an owned slot goes out of the frame -/
def out (keep : Nat → Bool) (r : R) : M Fl := fun δ => match r with
  | .dat d => some (.ok (.rt (.dat d)) δ)
  | .own d => some (.ok (.rt (.own d)) δ)
  | .bor i => match δ[i]? with
    | some (some (.own d)) => if keep i then none else some (.ok (.rt (.own d)) (δ.set i none))
    | some (some (.dat d)) => some (.ok (.rt (.dat d)) δ)
    | _ => none
/-- the fields of an error, by its arguments -/
def excF (fl : List Str) (ds : List D) : Option (List (Str × D)) := if ds.length = fl.length then some (fl.zip ds).reverse else none
def raiM (c : Str) (fl : List Str) (ms : M (List R)) : M Fl := M.bnd ms fun rs => M.bnd (gives rs) fun ds δ => match excF fl ds with
  | some fs => some (.ex c fs δ)
  | none => none
def haD (fl : List Str) (fs : List (Str × D)) : HA → Option D
  | .cst c => some (scD c)
  | .fld f => if f ∈ fl then fs.lookup f else none
def haL (fl : List Str) (fs : List (Str × D)) : List HA → Option (List D)
  | [] => some []
  | a :: l => match haD fl fs a, haL fl fs l with
    | some d, some ds => some (d :: ds)
    | _, _ => none
def hxR (fl : List Str) (fs : List (Str × D)) : HX → Option R
  | .at a => (haD fl fs a).map .dat
  | .lst l => match haL fl fs l with
    | some ds => if szOk ds.length then some (.own (.lst ds)) else none
    | none => none
/-- the clause's name goes, the value is stored -/
def hput (keep : Nat → Bool) (nm : Option Nat) (i : Nat) (r : R) : M Fl := match nm with
  | none => put keep i r
  | some j => fun δ => if keep j || decide (δ.length ≤ j) then none else put keep i r (δ.set j none)
/-- the clauses, one after the other -/
def hdl (cf : Cfg) (keep : Nat → Bool) : List HC → Str → List (Str × D) → M Fl
  | [], c, fs => fun δ => some (.ex c fs δ)
  | h :: l, c, fs => match cf.exm c h.cls, cf.exc c with
    | some true, some fl => match hxR fl fs h.e with
      | some r => hput keep h.nm h.to r
      | none => M.stuck
    | some false, _ => hdl cf keep l c fs
    | _, _ => M.stuck
def triM (cf : Cfg) (keep : Nat → Bool) (mb : M Fl) (hs : List HC) : M Fl := fun δ => if hs.all (fun h => cf.hcl h.cls) then match mb δ with
    | some (.ok f δ) => some (.ok f δ)
    | some (.ex c fs δ) => hdl cf keep hs c fs δ
    | none => none
  else none
mutual
def evS (cf : Cfg) (F : Nat) (keep : Nat → Bool) : MS → M Fl
  | .set i e => M.bnd (evE cf e) fun r => put keep i r
  | .par ts es => M.bnd (evL cf es) fun rs => M.bnd (stay rs) fun rs => noX (putT cf keep ts rs)
  | .unp l e => M.bnd (evE cf e) fun r => M.bnd (give r) fun d => setN keep l d
  | .sto i ix e => M.bnd (evE cf e) fun r => M.bnd (give r) fun v => M.bnd (ownI i) fun _ => M.bnd (evE cf ix) fun k => M.bnd (look k some) fun k => chg i fun c => storeD c k v
  | .fld i f e => M.bnd (evE cf e) fun r => M.bnd (give r) fun v => chg i (fldS cf f v)
  | .aug i o e => fun δ => match δ[i]? with
    | some (some (.dat d)) => M.bnd (evE cf e) (fun r => M.bnd (look r some) fun y => match binD o d y with
      | some (.dat z) => put keep i (.dat z)
      | _ => M.stuck) δ
    | _ => none
  | .auf i f o e => fun δ => match δ[i]? with
    | some (some (.own (.ins c fs))) => match fs.lookup f with
      | some d => M.bnd (evE cf e) (fun r => M.bnd (look r some) fun y => match binD o d y with
        | some (.dat z) => chg i fun | .ins c fs => some (.ins c (putFD f z fs)) | _ => none
        | _ => M.stuck) δ
      | none => none
    | _ => none
  | .app i e => fun δ => match δ[i]? with
    | some (some (.own (.lst _))) => M.bnd (evE cf e) (fun r => M.bnd (give r) fun v => chg i (appD v)) δ
    | _ => none
  | .exp e => M.bnd (evE cf e) fun _ => M.ret .nx
  | .ite c a b => M.bnd (tst (evE cf c)) fun k => if k then evSs cf F keep a else evSs cf F keep b
  | .whl c b => whlM (tst (evE cf c)) (evSs cf F keep b) F
  | .fr tg it b => M.bnd (evI cf it) fun l => frM keep tg (evSs cf F keep b) l
  | .ret e => M.bnd (evE cf e) fun r => out keep r
  | .rtn => M.ret (.rt (.dat .non))
  | .rai c l => match cf.exc c with
    | some fl => if l.length = fl.length then raiM c fl (evL cf l) else M.stuck
    | none => M.stuck
  | .tri b hs => triM cf keep (evSs cf F keep b) hs
  | .nev => M.stuck
  | .pas => M.ret .nx
def evSs (cf : Cfg) (F : Nat) (keep : Nat → Bool) : List MS → M Fl
  | [] => M.ret .nx
  | s :: r => M.bnd (evS cf F keep s) fun | .nx => evSs cf F keep r | .rt r => M.ret (.rt r)
end
/-! ### a def -/
def startD : List Bool → List D → Env
  | true :: ms, d :: ds => some (.own d) :: startD ms ds
  | _ :: ms, d :: ds => some (.dat d) :: startD ms ds
  | _, _ => []
def keepOf (mask : List Bool) (i : Nat) : Bool := mask.getD i false
/-- what the changed parameters hold in the end -/
def restD (δ : Env) : Nat → List Bool → Option (List D)
  | _, [] => some []
  | i, true :: ms => match δ[i]?, restD δ (i + 1) ms with
    | some (some (.own d)), some r => some (d :: r)
    | _, _ => none
  | i, false :: ms => restD δ (i + 1) ms
def run (cf : Cfg) (F : Nat) (mask : List Bool) (n : Nat) (body : List MS) (ds : List D) : Option Out :=
  if ds.length ≠ mask.length then none else
  match evSs cf F (keepOf mask) body (startD mask ds ++ List.replicate (n - mask.length) none) with
  | some (.ok .nx δ) => (restD δ 0 mask).map fun r => .ret false .non r
  | some (.ok (.rt (.dat d)) δ) => (restD δ 0 mask).map fun r => .ret false d r
  | some (.ok (.rt (.own d)) δ) => (restD δ 0 mask).map fun r => .ret true d r
  | some (.ex c fs δ) => (restD δ 0 mask).map fun r => .ex c fs r
  | _ => none
end Rl

set_option Elab.async false
set_option linter.all false
set_option maxRecDepth 100000
set_option maxHeartbeats 4000000
/-! Lay D: lemmas of results; what the table says; the state of the text (XOk). -/
namespace Rl
open PySem L2

section
variable {K : PySem.W.Frag} {N : Nm} {σ : L2.St} {δ δ0 δ' δ1 : Env} {Hb Hb' Hb0 H H' H0 H1 : Hp} {v : V} {r : R} {d : D}
/-- what can be read of a value -/
def Vw (K : PySem.W.Frag) (N : Nm) (Hb H : Hp) (v : V) (d : D) : Prop := Rep K N Hb v d ∨ ∃ p o, v = .ref p ∧ H p = some o ∧ Cnt K N Hb o d

theorem RR.base (h : RR K N σ δ Hb H1 H v r) (k : ∀ a, H0 a ≠ none → H1 a ≠ none) : RR K N σ δ Hb H0 H v r := by
  cases r with
  | dat d => exact h
  | bor i => exact h
  | own d =>
    obtain ⟨p, o, a, b, c⟩ := h
    refine ⟨p, o, a, ?_, c⟩
    cases q : H0 p with
    | none => rfl
    | some u => exact absurd b (k p (ne_none q))
theorem RR.keep (h : RR K N σ δ Hb H0 H v r) (s : Stp σ δ Hb H σ δ' Hb' H') : RR K N σ δ' Hb' H0 H' v r := by
  cases r with
  | dat d => exact Rep.mono s.hb h
  | bor i => exact h
  | own d =>
    obtain ⟨p, o, a, b, c, e, f, g⟩ := h
    refine ⟨p, o, a, b, ?_, s.frame p o e g, f.mono s.hb, fun z => ?_⟩
    · rcases s.fresh p c (ne_none e) with q | q
      · exact q
      · exact absurd q g
    · rcases s.own p z with q | q
      · exact g q
      · rw [e] at q; cases q

theorem Good.vw (g : Good K N σ δ Hb H) (h : RR K N σ δ Hb H0 H v r) (e : vw δ r = some d) : Vw K N Hb H v d := by
  cases r with
  | dat d' =>
    cases (Option.some.inj e)
    exact .inl h
  | own d' =>
    cases (Option.some.inj e)
    obtain ⟨p, o, a, b, c, e1, f, _⟩ := h
    exact .inr ⟨p, o, a, e1, f⟩
  | bor i =>
    have h' : σ[i]? = some (some v) := h
    unfold vw at e
    cases q : δ[i]? with
    | none => simp [q] at e
    | some b =>
      cases b with
      | none => simp [q] at e
      | some b =>
        cases b with
        | dat d' =>
          simp [q] at e
          subst e
          obtain ⟨u, a, b⟩ := g.dat i d' q
          rw [h'] at a
          cases a
          exact .inl b
        | own d' =>
          simp [q] at e
          subst e
          obtain ⟨p, o, a, b, c, f⟩ := g.own i d' q
          rw [h'] at a
          cases a
          exact .inr ⟨p, o, rfl, c, f⟩
theorem Rep.of_cnt {p : Addr} {o : HO} (h : Cnt K N Hb o d) (hp : H p = some o) (e : Ex Hb H) : Rep K N H (.ref p) d := by
  cases h with
  | lst r => exact .lst hp (r.mono e)
  | dct r => exact .dct hp (r.mono e)
  | dtt r => exact .dtt hp (r.mono e)
  | ins c r => exact .ins hp c (r.mono e)
theorem Vw.rep (h : Vw K N Hb H v d) (e : Ex Hb H) : Rep K N H v d := by
  rcases h with h | ⟨p, o, rfl, a, b⟩
  · exact h.mono e
  · exact Rep.of_cnt b a e
theorem Vw.mono (h : Vw K N Hb H v d) (e : Ex Hb Hb') (eh : Ex H H') : Vw K N Hb' H' v d := by
  rcases h with h | ⟨p, o, q, a, b⟩
  · exact .inl (h.mono e)
  · exact .inr ⟨p, o, q, eh _ _ a, b.mono e⟩
theorem Own.lt {i : Nat} (h : δ[i]? = some (some (.own d))) {p : Addr} (h' : σ[i]? = some (some (.ref p))) : Own σ δ p := ⟨i, d, h, h'⟩
theorem set_get {α : Type} {l : List α} {i j : Nat} {a b : α} (h : (l.set i a)[j]? = some b) : (i = j ∧ a = b ∧ i < l.length) ∨ (i ≠ j ∧ l[j]? = some b) := by
  by_cases e : i = j
  · subst e
    have hl : i < l.length := by
      rcases List.getElem?_eq_some_iff.mp h with ⟨q, _⟩
      rw [List.length_set] at q
      exact q
    rw [List.getElem?_set_self hl] at h
    exact .inl ⟨rfl, Option.some.inj h, hl⟩
  · rw [List.getElem?_set_ne e] at h
    exact .inr ⟨e, h⟩
/-- what is owned by a slot behind a slot's change to data -/
theorem own_set_dat {i : Nat} {d : D} {a : Addr} (h : Own σ (δ.set i (some (.dat d))) a) : Own σ δ a := by
  obtain ⟨j, e, h1, h2⟩ := h
  rcases set_get h1 with ⟨_, z, _⟩ | ⟨_, z⟩
  · cases z
  · exact ⟨j, e, z, h2⟩
/-- an owned slot's thing is known as data from now on -/
theorem Good.freeze (g : Good K N σ δ Hb H) {i : Nat} {d : D} (h : δ[i]? = some (some (.own d))) :
    ∃ p o, σ[i]? = some (some (.ref p)) ∧ Hb p = none ∧ H p = some o ∧ Good K N σ (δ.set i (some (.dat d))) (upd Hb p o) H ∧ Rep K N (upd Hb p o) (.ref p) d ∧ Stp σ δ Hb H σ (δ.set i (some (.dat d))) (upd Hb p o) H := by
  obtain ⟨p, o, h1, h2, h3, h4⟩ := g.own i d h
  have eb : Ex Hb (upd Hb p o) := Ex.new h2
  have ex : Ex (upd Hb p o) H := fun a u e => by
    by_cases q : a = p
    · subst q; rw [upd_same] at e; cases e; exact h3
    · rw [upd_ne q] at e; exact g.ex a u e
  have rp : Rep K N (upd Hb p o) (.ref p) d := by
    cases h4 with
    | lst r => exact .lst upd_same (r.mono eb)
    | dct r => exact .dct upd_same (r.mono eb)
    | dtt r => exact .dtt upd_same (r.mono eb)
    | ins c r => exact .ins upd_same c (r.mono eb)
  refine ⟨p, o, h1, h2, h3, ⟨ex, fun j e q => ?_, fun j e q => ?_, fun j k a e f n q1 q2 => ?_, ?_⟩, rp, ⟨eb, fun a q n => ?_, fun _ _ q _ => q, fun _ q => q, fun a q => .inl (own_set_dat q)⟩⟩
  · rcases set_get q with ⟨rfl, z, _⟩ | ⟨_, z⟩
    · cases z; exact ⟨_, h1, rp⟩
    · obtain ⟨u, a, b⟩ := g.dat j e z
      exact ⟨u, a, b.mono eb⟩
  · rcases set_get q with ⟨rfl, z, _⟩ | ⟨n, z⟩
    · cases z
    · obtain ⟨q', u, a, b, c, f⟩ := g.own j e z
      refine ⟨q', u, a, ?_, c, f.mono eb⟩
      rw [upd_ne]
      · exact b
      · rintro rfl
        exact g.sep i j q' d e n h z h1 a
  · rcases set_get q1 with ⟨_, z, _⟩ | ⟨_, z1⟩
    · cases z
    · rcases set_get q2 with ⟨_, z, _⟩ | ⟨_, z2⟩
      · cases z
      · exact g.sep j k a e f n z1 z2
  · rw [List.length_set]; exact g.len
  · by_cases z : a = p
    · subst z; exact .inr ⟨i, d, h, h1⟩
    · exact .inl (by rw [upd_ne z]; exact q)
/-- a result is given up as data -/
theorem Good.give (g : Good K N σ δ Hb H) (s : Stp σ δ0 Hb0 H0 σ δ Hb H) (h : RR K N σ δ Hb H0 H v r) {res : Res D} (e : give r δ = some res) :
    ∃ d δ' Hb', res = .ok d δ' ∧ Stp σ δ0 Hb0 H0 σ δ' Hb' H ∧ Good K N σ δ' Hb' H ∧ Rep K N Hb' v d ∧ Ex Hb Hb' ∧
      (∀ q, Hb q = none → ¬ Own σ δ q → v ≠ .ref q → Hb' q = none) ∧ (∀ q, Own σ δ' q → Own σ δ q) ∧ ((∀ d, r ≠ .own d) → ∀ q, Hb q = none → ¬ Own σ δ q → Hb' q = none) := by
  cases r with
  | dat d =>
    cases (Option.some.inj e)
    exact ⟨d, δ, Hb, rfl, s, g, h, Ex.refl _, fun q a _ _ => a, fun q a => a, fun _ q a _ => a⟩
  | own d =>
    cases (Option.some.inj e)
    obtain ⟨p, o, rfl, a, b, c, f, n⟩ := h
    have eb : Ex Hb (upd Hb p o) := Ex.new b
    refine ⟨d, δ, upd Hb p o, rfl, ⟨s.hb.trans eb, fun q hq nq => ?_, s.frame, s.dom, s.own⟩, g.froz c b n, ?_, eb, fun q hq _ ne => ?_, fun q a => a, fun z => absurd rfl (z d)⟩
    · rcases s.fresh q hq nq with z | z
      · refine .inl ?_
        rw [upd_ne]
        · exact z
        · rintro rfl
          exact nq a
      · exact .inr z
    · cases f with
      | lst r9 => exact .lst upd_same (r9.mono eb)
      | dct r9 => exact .dct upd_same (r9.mono eb)
      | dtt r9 => exact .dtt upd_same (r9.mono eb)
      | ins c9 r9 => exact .ins upd_same c9 (r9.mono eb)
    · rw [upd_ne (fun z => ne (by rw [z]))]
      exact hq
  | bor i =>
    have h' : σ[i]? = some (some v) := h
    unfold Rl.give at e
    cases q : δ[i]? with
    | none => simp [q] at e
    | some b =>
      cases b with
      | none => simp [q] at e
      | some b =>
        cases b with
        | dat d =>
          simp [q] at e
          subst e
          obtain ⟨u, a, b⟩ := g.dat i d q
          rw [h'] at a
          cases a
          exact ⟨d, δ, Hb, rfl, s, g, b, Ex.refl _, fun q a _ _ => a, fun q a => a, fun _ q a _ => a⟩
        | own d =>
          simp [q] at e
          subst e
          obtain ⟨p, o, h1, h2, h3, g', rp, s'⟩ := g.freeze q
          rw [h'] at h1
          cases h1
          have k : ∀ x, Hb x = none → ¬ Own σ δ x → upd Hb p o x = none := fun x a n => by
            rw [upd_ne]
            · exact a
            · rintro rfl
              exact n ⟨i, d, q, h'⟩
          exact ⟨d, _, _, rfl, s.trans s', g', rp, s'.hb, fun x a n _ => k x a n, fun x a => own_set_dat a, fun _ x a n => k x a n⟩
/-- the others stay what they were -/
theorem RR.given {δ' : Env} (h : RR K N σ δ Hb H0 H v r) (eb : Ex Hb Hb') (ho : ∀ q, Own σ δ' q → Own σ δ q) (k : ∀ q, v = .ref q → Hb q = none → ¬ Own σ δ q → (∃ d, r = .own d) → Hb' q = none) : RR K N σ δ' Hb' H0 H v r := by
  cases r with
  | dat d => exact Rep.mono eb h
  | bor i => exact h
  | own d =>
    obtain ⟨p, o, a, b, c, e, f, n⟩ := h
    exact ⟨p, o, a, b, k p a c n ⟨d, rfl⟩, e, f.mono eb, fun z => n (ho p z)⟩
end

section
variable {K : PySem.W.Frag} {N : Nm} {σ : L2.St} {δ δ0 δ' δ1 : Env} {Hb Hb' Hb0 H H' H0 H1 : Hp}
theorem RRl.base {vs : List V} {rs : List R} (h : RRl K N σ δ Hb H1 H vs rs) (k : ∀ a, H0 a ≠ none → H1 a ≠ none) : RRl K N σ δ Hb H0 H vs rs := by
  induction h with
  | nil => exact .nil
  | cons a _ ih => exact .cons (a.base k) ih
theorem RRl.keep {vs : List V} {rs : List R} (h : RRl K N σ δ Hb H0 H vs rs) (s : Stp σ δ Hb H σ δ' Hb' H') : RRl K N σ δ' Hb' H0 H' vs rs := by
  induction h with
  | nil => exact .nil
  | cons a _ ih => exact .cons (a.keep s) ih
theorem RRl.length {vs : List V} {rs : List R} (h : RRl K N σ δ Hb H0 H vs rs) : vs.length = rs.length := by
  induction h with
  | nil => rfl
  | cons _ _ ih => simp [ih]
theorem RRl.fresh {vs : List V} {rs : List R} (h : RRl K N σ δ Hb H0 H vs rs) : ∀ q ∈ ownA vs rs, H0 q = none ∧ Hb q = none ∧ ¬ Own σ δ q ∧ H q ≠ none := by
  induction h with
  | nil => intro q z; cases z
  | @cons v r vs rs a _ ih =>
    intro q z
    cases r with
    | dat d => exact ih q z
    | bor i => exact ih q z
    | own d =>
      rcases List.mem_cons.mp z with z | z
      · obtain ⟨p, o, e, b, c, f, _, n⟩ := a
        subst e
        have z' : q = p := z
        subst z'
        exact ⟨b, c, n, ne_none f⟩
      · exact ih q z
theorem RRl.given {vs : List V} {rs : List R} (h : RRl K N σ δ Hb H0 H vs rs) (eb : Ex Hb Hb') (ho : ∀ q, Own σ δ' q → Own σ δ q) (k : ∀ q ∈ ownA vs rs, Hb' q = none) : RRl K N σ δ' Hb' H0 H vs rs := by
  induction h with
  | nil => exact .nil
  | @cons v r vs rs a _ ih =>
    refine .cons (a.given eb ho fun q e _ _ ⟨d, er⟩ => ?_) (ih fun q hq => ?_)
    · subst er; subst e
      exact k q (List.mem_cons_self)
    · cases r with
      | dat d => exact k q hq
      | bor i => exact k q hq
      | own d => exact k q (List.mem_cons_of_mem _ hq)
theorem RepL.length {H : Hp} : ∀ {vs : List V} {ds : List D}, RepL K N H vs ds → vs.length = ds.length
  | _, _, .nil => rfl
  | _, _, .cons _ r => by simp [RepL.length r]
theorem Good.gives : ∀ {vs : List V} {rs : List R} {δ : Env} {Hb : Hp} {res : Res (List D)}, Good K N σ δ Hb H → Stp σ δ0 Hb0 H0 σ δ Hb H → RRs K N σ δ Hb H0 H vs rs → gives rs δ = some res →
    ∃ ds δ' Hb', res = .ok ds δ' ∧ Stp σ δ0 Hb0 H0 σ δ' Hb' H ∧ Good K N σ δ' Hb' H ∧ RepL K N Hb' vs ds ∧ Ex Hb Hb' ∧ (∀ q, Hb q = none → ¬ Own σ δ q → q ∉ ownA vs rs → Hb' q = none) ∧ (∀ q, Own σ δ' q → Own σ δ q)
  | _, [], δ, Hb, res, g, s, ⟨h, _⟩, e => by
    cases h
    cases (Option.some.inj e)
    exact ⟨[], δ, Hb, rfl, s, g, .nil, Ex.refl _, fun _ a _ _ => a, fun _ a => a⟩
  | _, r :: rs, δ, Hb, res, g, s, ⟨h, nd⟩, e => by
    cases h with
    | @cons v _ vs _ h1 h2 =>
    rcases M.bnd_ok e with ⟨d, δ1, e1, e2⟩ | ⟨c, fs, δ1, e1, e2⟩
    · obtain ⟨d', δ1', Hb1, q1, s1, g1, r1, x1, k1, o1, k1'⟩ := g.give s h1 e1
      cases q1
      have kk : ∀ q ∈ ownA vs rs, Hb1 q = none := fun q hq => by
        obtain ⟨_, a, b, _⟩ := h2.fresh q hq
        cases r with
        | dat d => exact k1' (fun _ z => nomatch z) q a b
        | bor i => exact k1' (fun _ z => nomatch z) q a b
        | own d =>
          refine k1 q a b fun z => ?_
          have := List.nodup_cons.mp nd
          exact this.1 (by rw [z]; exact hq)
      have nd2 : (ownA vs rs).Nodup := by
        cases r with
        | dat d => exact nd
        | bor i => exact nd
        | own d => exact (List.nodup_cons.mp nd).2
      rcases M.bnd_ok e2 with ⟨ds, δ2, e3, e4⟩ | ⟨c, fs, δ2, e3, e4⟩
      · obtain ⟨ds', δ2', Hb2, q2, s2, g2, r2, x2, k2, o2⟩ := Good.gives g1 s1 ⟨h2.given x1 o1 kk, nd2⟩ e3
        cases q2
        cases (Option.some.inj e4)
        refine ⟨_, _, Hb2, rfl, s2, g2, .cons (r1.mono x2) r2, x1.trans x2, fun q a b c => ?_, fun q a => o1 q (o2 q a)⟩
        refine k2 q ?_ (fun z => b (o1 q z)) fun z => c ?_
        · cases r with
          | dat d => exact k1' (fun _ z => nomatch z) q a b
          | bor i => exact k1' (fun _ z => nomatch z) q a b
          | own d =>
            refine k1 q a b fun z => c ?_
            show q ∈ adr v :: ownA vs rs
            rw [z]
            exact List.mem_cons_self
        · cases r with
          | dat d => exact z
          | bor i => exact z
          | own d => exact List.mem_cons_of_mem _ z
      · obtain ⟨_, _, _, q2, _⟩ := Good.gives g1 s1 ⟨h2.given x1 o1 kk, nd2⟩ e3
        cases q2
    · obtain ⟨_, _, _, q1, _⟩ := g.give s h1 e1
      cases q1
theorem look_ok {α : Type} {r : R} {f : D → Option α} {δ : Env} {res : Res α} (h : look r f δ = some res) : ∃ d a, vw δ r = some d ∧ f d = some a ∧ res = .ok a δ := by
  unfold look at h
  cases e : vw δ r with
  | none => rw [e] at h; cases h
  | some d =>
    rw [e] at h
    have h' : (f d).map (fun a => Res.ok a δ) = some res := h
    cases q : f d with
    | none => rw [q] at h'; cases h'
    | some a => rw [q] at h'; exact ⟨d, a, rfl, q, (Option.some.inj h').symm⟩
theorem look2_ok {α : Type} {r s : R} {f : D → D → Option α} {δ : Env} {res : Res α} (h : look2 r s f δ = some res) : ∃ d e a, vw δ r = some d ∧ vw δ s = some e ∧ f d e = some a ∧ res = .ok a δ := by
  unfold look2 at h
  cases e : vw δ r with
  | none => rw [e] at h; cases h
  | some d =>
    cases e2 : vw δ s with
    | none => rw [e, e2] at h; cases h
    | some d2 =>
      rw [e, e2] at h
      have h' : (f d d2).map (fun a => Res.ok a δ) = some res := h
      cases q : f d d2 with
      | none => rw [q] at h'; cases h'
      | some a => rw [q] at h'; exact ⟨d, d2, a, rfl, rfl, q, (Option.some.inj h').symm⟩
theorem looks_ok {α : Type} {r : List R} {f : List D → Option α} {δ : Env} {res : Res α} (h : looks r f δ = some res) : ∃ d a, vws δ r = some d ∧ f d = some a ∧ res = .ok a δ := by
  unfold looks at h
  cases e : vws δ r with
  | none => rw [e] at h; cases h
  | some d =>
    rw [e] at h
    have h' : (f d).map (fun a => Res.ok a δ) = some res := h
    cases q : f d with
    | none => rw [q] at h'; cases h'
    | some a => rw [q] at h'; exact ⟨d, a, rfl, q, (Option.some.inj h').symm⟩
inductive VwL (K : PySem.W.Frag) (N : Nm) (Hb H : Hp) : List V → List D → Prop
  | nil : VwL K N Hb H [] []
  | cons {v : V} {d : D} {vs : List V} {ds : List D} : Vw K N Hb H v d → VwL K N Hb H vs ds → VwL K N Hb H (v :: vs) (d :: ds)
theorem Good.vws (g : Good K N σ δ Hb H) : ∀ {vs : List V} {rs : List R} {ds : List D}, RRl K N σ δ Hb H0 H vs rs → vws δ rs = some ds → VwL K N Hb H vs ds
  | _, _, _, .nil, e => by cases (Option.some.inj e); exact .nil
  | v :: vs, r :: rs, ds, .cons a b, e => by
    unfold Rl.vws at e
    cases q : Rl.vw δ r with
    | none => rw [q] at e; cases e
    | some d =>
      cases q2 : Rl.vws δ rs with
      | none => rw [q, q2] at e; cases e
      | some ds' =>
        rw [q, q2] at e
        cases (Option.some.inj e)
        exact .cons (g.vw a q) (Good.vws g b q2)
theorem VwL.rep : ∀ {vs : List V} {ds : List D}, VwL K N Hb H vs ds → Ex Hb H → RepL K N H vs ds
  | _, _, .nil, _ => .nil
  | _, _, .cons a b, e => .cons (a.rep e) (VwL.rep b e)
end

/-! ### a call's promise -/
/-- the environment of a call: owned where it may change -/
def updA : List Bool → Env → List D → Option Env
  | [], l, [] => some l
  | true :: ms, _ :: l, d :: ds => (updA ms l ds).map (some (.own d) :: ·)
  | false :: ms, x :: l, ds => (updA ms l ds).map (x :: ·)
  | _, _, _ => none
/-- what follows a call -/
def SpPost (K : PySem.W.Frag) (N : Nm) (mask : List Bool) (vs : List V) (ds : List D) (Hb H : Hp) (Q : VK) (E : XK) : Out → Prop
  | .ret w d as => ∃ δ', updA mask (startD mask ds) as = some δ' ∧ ∀ v Hb' H', Stp (vs.map some) (startD mask ds) Hb H (vs.map some) δ' Hb' H' → Good K N (vs.map some) δ' Hb' H' →
      RR K N (vs.map some) δ' Hb' H H' v (if w then .own d else .dat d) → Q v H'
  | .ex c fs as => ∃ δ', updA mask (startD mask ds) as = some δ' ∧ ∀ cv dd Hb' H', Stp (vs.map some) (startD mask ds) Hb H (vs.map some) δ' Hb' H' → Good K N (vs.map some) δ' Hb' H' →
      XR K N Hb' cv dd c fs → E cv dd H'
def spOf (K : PySem.W.Frag) (N : Nm) (fi : FI) : Sp := fun vs H Q E => ∃ Hb ds o, vs.length = fi.mask.length ∧ ds.length = fi.mask.length ∧ Good K N (vs.map some) (startD fi.mask ds) Hb H ∧ fi.sem ds = some o ∧ SpPost K N fi.mask vs ds Hb H Q E o
theorem spOf_imp {K : PySem.W.Frag} {N : Nm} {fi fi' : FI} (hm : fi'.mask = fi.mask) (hs : ∀ ds o, fi'.sem ds = some o → fi.sem ds = some o) (vs : List V) (H : Hp) (Q : VK) (E : XK) (h : spOf K N fi' vs H Q E) : spOf K N fi vs H Q E := by
  obtain ⟨Hb, ds, o, a, b, c, d, e⟩ := h
  rw [hm] at a b c e
  exact ⟨Hb, ds, o, a, b, c, hs ds o d, e⟩

/-- what the top has written of an error's class: its name, its fields, its __init__ at f -/
structure ErrAt (K : PySem.W.Frag) (mg : Str → Option Value) (C : Addr) (x : Str) (fl : List Str) (f : Addr) : Prop where
  mgC : mg x = some (.ref C)
  own : OexC K C
  ini : PySem.W.findIn K (.ref C) "__init__" = some (some (.ref f))
  fty : PySem.W.typeIn K (.ref f) = some (.type "function")
  nof : ∀ y ∈ fl, PySem.W.findIn K (.ref C) y = some none
/-- the promise of an error's __init__ -/
def spI (K : PySem.W.Frag) : List Str → Sp
  | [] => fun vs H Q _ => ∃ a C, vs = [.ref a] ∧ OexC K C ∧ H a = some (exo a C none) ∧ Q .non H
  | [f] => fun vs H Q _ => ∃ a C v, vs = [.ref a, v] ∧ OexC K C ∧ PySem.W.findIn K (.ref C) f = some none ∧ H a = some (exo a C none) ∧ ∀ dx, H dx = none → dx ≠ a → Q .non (upd (upd H dx (exd dx [(f, v)])) a (exo a C (some dx)))
  | [f, g] => fun vs H Q _ => ∃ a C v w, vs = [.ref a, v, w] ∧ OexC K C ∧ PySem.W.findIn K (.ref C) f = some none ∧ PySem.W.findIn K (.ref C) g = some none ∧ H a = some (exo a C none) ∧
      ∀ dx, H dx = none → dx ≠ a → Q .non (upd (upd (upd H dx (exd dx [(f, v)])) a (exo a C (some dx))) dx (exd dx [(g, w), (f, v)]))
  | _ => fun _ _ _ _ => False
/-- an error's class is there, its __init__ keeps its promise -/
def ErrF (P : Program) (w : World) (K : PySem.W.Frag) (mg : Str → Option Value) (base : Heap) (k : Nat) (N : Nm) (c : Str) (fl : List Str) : Prop :=
  ∃ C fI fd, N.cls c = some C ∧ ErrAt K mg C c fl fI ∧ FnOk P w K mg base (L2.CX P w) k fI fd ("self" :: fl) (spI K fl) ∧ Binds K fd ("self" :: fl) []
theorem ErrF.mono {P : Program} {w : World} {K : PySem.W.Frag} {mg : Str → Option Value} {base : Heap} {k k' : Nat} {N : Nm} {c : Str} {fl : List Str} (h : ErrF P w K mg base k N c fl) (le : k ≤ k') : ErrF P w K mg base k' N c fl :=
  let ⟨C, fI, fd, a, b, d, e⟩ := h; ⟨C, fI, fd, a, b, d.mono le, e⟩
/-! ### what the table of the text says -/
def bltNames : List Str := ["len", "abs", "max", "sum", "all", "any", "list", "tuple", "dict", "int", "str", "bool", "isinstance", "range", "enumerate", "zip", "set"]
def tyNames : List String := ["NoneType", "bool", "int", "str", "tuple", "list", "dict"]
section
variable (P : Program) (w : World) (K : PySem.W.Frag) (mg : Str → Option Value) (base : Heap) (k : Nat) (N : Nm)
/-- the def at a keeps fi's promise -/
def FnAt (a : Addr) (fi : FI) : Prop := ∃ fd ps, FnOk P w K mg base (L2.CX P w) k a fd ps (spOf K N fi) ∧ PySem.W.keepIn K (.ref a) = true ∧ Binds K fd ps [] ∧ ps.length = fi.mask.length
structure Tab (cf : Cfg) : Prop where
  fns : ∀ f fi, cf.fns f = some fi → ∃ a, mg f = some (.ref a) ∧ N.fn f = some a ∧ FnAt P w K mg base k N a fi
  inj : ∀ f g a, N.fn f = some a → N.fn g = some a → f = g
  glb : ∀ x d, cf.glb x = some d → ∃ v u, mg x = some u ∧ RelV v u ∧ Rep K N (fun _ => none) v d
  blt : ∀ x ∈ bltNames, mg x = none
  cls : ∀ c C, N.cls c = some C → (cf.flds c).isSome = true → Cls K C
  fld : ∀ c C f l, N.cls c = some C → cf.flds c = some l → f ∈ l → NoAttr K C f
  prp : ∀ c f fi, cf.prp c f = some fi → ∃ C p g, N.cls c = some C ∧ (cf.flds c).isSome = true ∧ PropOf K C f p g ∧ FnAt P w K mg base k N g fi ∧ fi.mask = [false]
  mth : ∀ c m fi, cf.mth c m = some fi → ∃ C f, N.cls c = some C ∧ (cf.flds c).isSome = true ∧ Meth K C m f ∧ FnAt P w K mg base k N f fi
  ini : ∀ c fi, cf.ini c = some fi → ∃ C f, N.cls c = some C ∧ mg c = some (.ref C) ∧ Mk K C f ∧ FnAt P w K mg base k N f fi
  eqs : ∀ c fi, cf.mth c "__eq__" = some fi → ∃ C, N.cls c = some C ∧ PySem.W.findIn K (.ref C) "__ne__" = some (some (.builtin "object.__ne__")) ∧ PySem.W.mroIn K C (.type "object") = some true ∧ PySem.W.subIn K (.type "list") (.ref C) = some false
  isi : ∀ c C, N.cls c = some C → (cf.flds c).isSome = true → mg c = some (.ref C) ∧ PySem.W.kitOne K (.ref C) (.ref C) = some true ∧ (∀ t ∈ tyNames, PySem.W.kitOne K (.type t) (.ref C) = some false) ∧
    PySem.W.findIn K (.ref C) "__class__" = some (some (.builtin "object.__class__")) ∧ PySem.W.specialIn K (.builtin "object.__class__") "__get__" = some (some (.builtin "getset_descriptor.__get__")) ∧ PySem.W.takesIn K (.builtin "object.__class__") = some true ∧ PySem.W.mroIn K C (.type "object") = some true
  exc : ∀ c fl, cf.exc c = some fl → ErrF P w K mg base k N c fl ∧ ∃ C, N.cls c = some C ∧ XfC K C
  hcl : ∀ c, cf.hcl c = true → ∃ C, mg c = some (.ref C)
  exm : ∀ c h b, cf.exm c h = some b → ∃ C C', N.cls c = some C ∧ mg h = some (.ref C') ∧ PySem.W.exmOne K (.ref C) (.ref C') = some b
end

/-! ### the state of the text -/
structure XOk (X : Cx) (k : Nat) (Ns : List Str) (sc : Scope) (N : Nm) (cf : Cfg) : Prop where
  hN : X.N = Ns
  hsc : X.env.scope = sc
  nd : Ns.Nodup
  calm : X.calm = true
  room : Room (k + 1) X.A
  tab : Tab X.prog X.w X.K X.mg X.base k N cf
  kind : sc.kind = .function
/-- a name can be read, stored; is global -/
def visB (sc : Scope) (x : Str) : Bool := match sc.names.lookup x with
  | some .local => true | some .cell => true | some .free => true | _ => false
def locB (sc : Scope) (x : Str) : Bool := match sc.names.lookup x with
  | some .local => true | some .cell => true | _ => false
def glB (sc : Scope) (x : Str) : Bool := match sc.names.lookup x with
  | some .globalImplicit => true | _ => false
theorem vis_of {sc : Scope} {x : Str} (h : visB sc x = true) : Vis sc x := by
  unfold visB at h
  unfold Vis
  cases e : sc.names.lookup x with
  | none => rw [e] at h; cases h
  | some k => rw [e] at h; cases k <;> simp_all
theorem loc_of {sc : Scope} {x : Str} (h : locB sc x = true) : L2.Loc sc x := by
  unfold locB at h
  unfold L2.Loc
  cases e : sc.names.lookup x with
  | none => rw [e] at h; cases h
  | some k => rw [e] at h; cases k <;> simp_all
section
variable {X : Cx} {k : Nat} {Ns : List Str} {sc : Scope} {N : Nm} {cf : Cfg}
theorem XOk.gl (o : XOk X k Ns sc N cf) {x : Str} (h : glB sc x = true) : Gl X x := by
  show X.env.scope.names.lookup x = some .globalImplicit
  rw [o.hsc]
  unfold glB at h
  cases e : sc.names.lookup x with
  | none => rw [e] at h; cases h
  | some k => rw [e] at h; cases k <;> simp_all
theorem XOk.vis (o : XOk X k Ns sc N cf) {x : Str} (h : visB sc x = true) : Vis X.env.scope x := by
  rw [o.hsc]; exact vis_of h
theorem XOk.loc (o : XOk X k Ns sc N cf) {x : Str} (h : locB sc x = true) : L2.Loc X.env.scope x := by
  rw [o.hsc]; exact loc_of h
theorem XOk.ix (o : XOk X k Ns sc N cf) {i : Nat} {x : Str} (h : Ns[i]? = some x) : X.N[i]? = some x := by rw [o.hN]; exact h
theorem XOk.hu (o : XOk X k Ns sc N cf) : X.A.units + 1 < cLine := hu_of o.room
end
/-- no star -/
def noStar : Expr → Bool
  | .Starred _ _ => false
  | _ => true
theorem star_ok {e : Expr} {es : List Expr} {env : PySem.Env} (h : noStar e = true) : starEach (e :: es) env = (false, eval e env) :: starEach es env := by
  cases e <;> first | rfl | cases h
theorem star_plain {pos : Pos} {env : PySem.Env} : ∀ {es : List Expr}, es.all noStar = true → (backTo pos (starEach es env)).any (·.1) = false
  | [], _ => rfl
  | e :: es, h => by
    rw [List.all_cons, Bool.and_eq_true] at h
    rw [star_ok h.1]
    show (false || (backTo pos (starEach es env)).any (·.1)) = false
    rw [star_plain h.2]
    rfl
/-- not a call without arguments (of super, it might be) -/
def plainBase : Expr → Bool
  | .Call (.Name _ _) [] [] _ => false
  | _ => true
theorem base_ok {e : Expr} {f : Str} {env : PySem.Env} {x : Sem Value} (h : plainBase e = true) : attributeBase e f env x = x := by
  unfold attributeBase
  split
  · cases h
  · rfl
end Rl

set_option Elab.async false
set_option linter.all false
set_option maxRecDepth 100000
set_option maxHeartbeats 4000000
/-! Lay E: the operations keep what the interpreter says. -/
namespace Rl
open PySem L2
section
variable {X : Cx} {N : Nm} {σ : L2.St} {δ : Env} {Hb H H0 : Hp} {v u : V} {d e : D} {r : R}

/-! ### reading -/
theorem Vw.int {K : PySem.W.Frag} {i : Int} (h : Vw K N Hb H v (.int i)) : v = .int i := by
  rcases h with h | ⟨p, o, q, a, b⟩
  · cases h; rfl
  · cases b
theorem Vw.bl {K : PySem.W.Frag} {i : Bool} (h : Vw K N Hb H v (.bl i)) : v = .bl i := by
  rcases h with h | ⟨p, o, q, a, b⟩
  · cases h; rfl
  · cases b
theorem Vw.str {K : PySem.W.Frag} {i : Str} (h : Vw K N Hb H v (.str i)) : v = .str i := by
  rcases h with h | ⟨p, o, q, a, b⟩
  · cases h; rfl
  · cases b
theorem Vw.non {K : PySem.W.Frag} (h : Vw K N Hb H v .non) : v = .non := by
  rcases h with h | ⟨p, o, q, a, b⟩
  · cases h; rfl
  · cases b
theorem Vw.fn {K : PySem.W.Frag} {f : Str} (h : Vw K N Hb H v (.fn f)) : ∃ a, v = .ref a ∧ N.fn f = some a := by
  rcases h with h | ⟨p, o, q, a, b⟩
  · cases h with | fn h => exact ⟨_, rfl, h⟩
  · cases b
theorem Vw.lst {K : PySem.W.Frag} {l : List D} (x : Ex Hb H) (h : Vw K N Hb H v (.lst l)) : ∃ a xs, v = .ref a ∧ H a = some (.lst xs) ∧ RepL K N Hb xs l := by
  rcases h with h | ⟨p, o, q, a, b⟩
  · cases h with | lst h1 h2 => exact ⟨_, _, rfl, x _ _ h1, h2⟩
  · cases b with | lst r => exact ⟨p, _, q, a, r⟩
theorem Vw.tup {K : PySem.W.Frag} {l : List D} (x : Ex Hb H) (h : Vw K N Hb H v (.tup l)) : ∃ a xs, v = .ref a ∧ H a = some (.tup xs) ∧ RepL K N Hb xs l := by
  rcases h with h | ⟨p, o, q, a, b⟩
  · cases h with | tup h1 h2 => exact ⟨_, _, rfl, x _ _ h1, h2⟩
  · cases b
theorem Vw.scr {K : PySem.W.Frag} {l : List D} (x : Ex Hb H) (h : Vw K N Hb H v (.scr l)) : ∃ a xs, v = .ref a ∧ SqL K H a xs ∧ RepL K N Hb xs l := by
  rcases h with h | ⟨p, o, q, a, b⟩
  · cases h with | scr h1 h2 => exact ⟨_, _, rfl, x.sl h1, h2⟩
  · cases b
theorem Vw.ctp {K : PySem.W.Frag} {l : List D} (x : Ex Hb H) (h : Vw K N Hb H v (.ctp l)) : ∃ a xs, v = .ref a ∧ SqT K H a xs ∧ RepL K N Hb xs l := by
  rcases h with h | ⟨p, o, q, a, b⟩
  · cases h with | ctp h1 h2 => exact ⟨_, _, rfl, x.st h1, h2⟩
  · cases b
theorem Vw.dct {K : PySem.W.Frag} {l : List (Key × D)} (x : Ex Hb H) (h : Vw K N Hb H v (.dct l)) : ∃ a xs, v = .ref a ∧ H a = some (.dK xs) ∧ RepK K N Hb xs l := by
  rcases h with h | ⟨p, o, q, a, b⟩
  · cases h with | dct h1 h2 => exact ⟨_, _, rfl, x _ _ h1, h2⟩
  · cases b with | dct r => exact ⟨p, _, q, a, r⟩
theorem Vw.dtt {K : PySem.W.Frag} {l : List (List Key × D)} (x : Ex Hb H) (h : Vw K N Hb H v (.dtt l)) : ∃ a xs, v = .ref a ∧ H a = some (.dT xs) ∧ RepT K N Hb xs l := by
  rcases h with h | ⟨p, o, q, a, b⟩
  · cases h with | dtt h1 h2 => exact ⟨_, _, rfl, x _ _ h1, h2⟩
  · cases b with | dtt r => exact ⟨p, _, q, a, r⟩
theorem Vw.ins {K : PySem.W.Frag} {c : Str} {l : List (Str × D)} (x : Ex Hb H) (h : Vw K N Hb H v (.ins c l)) : ∃ a C dx xs, v = .ref a ∧ H a = some (.ins C dx xs) ∧ N.cls c = some C ∧ RepF K N Hb xs l := by
  rcases h with h | ⟨p, o, q, a, b⟩
  · cases h with | ins h1 h2 h3 => exact ⟨_, _, _, _, rfl, x _ _ h1, h2, h3⟩
  · cases b with | ins h2 r => exact ⟨p, _, _, _, q, a, h2, r⟩
theorem RepL.get {K : PySem.W.Frag} : ∀ {vs : List V} {ds : List D} {i : Nat} {d : D}, RepL K N Hb vs ds → ds[i]? = some d → ∃ v, vs[i]? = some v ∧ Rep K N Hb v d
  | _, _, _, _, .nil, e => by simp at e
  | _, _, 0, _, .cons a _, e => by simp at e; subst e; exact ⟨_, rfl, a⟩
  | _, _, i + 1, _, .cons _ b, e => by
    obtain ⟨v, q, r⟩ := RepL.get (i := i) b (by simpa using e)
    exact ⟨v, by simpa using q, r⟩
theorem RepL.getV {K : PySem.W.Frag} : ∀ {vs : List V} {ds : List D} {i : Nat} {v : V}, RepL K N Hb vs ds → vs[i]? = some v → ∃ d, ds[i]? = some d ∧ Rep K N Hb v d
  | _, _, _, _, .nil, e => by simp at e
  | _, _, 0, _, .cons a _, e => by simp at e; subst e; exact ⟨_, rfl, a⟩
  | _, _, i + 1, _, .cons _ b, e => by
    obtain ⟨v, q, r⟩ := RepL.getV (i := i) b (by simpa using e)
    exact ⟨v, by simpa using q, r⟩
theorem RepL.app {K : PySem.W.Frag} : ∀ {vs us : List V} {ds es : List D}, RepL K N Hb vs ds → RepL K N Hb us es → RepL K N Hb (vs ++ us) (ds ++ es)
  | _, _, _, _, .nil, h => h
  | _, _, _, _, .cons a b, h => .cons a (RepL.app b h)
theorem RepL.drop {K : PySem.W.Frag} : ∀ {vs : List V} {ds : List D} (n : Nat), RepL K N Hb vs ds → RepL K N Hb (vs.drop n) (ds.drop n)
  | _, _, 0, h => h
  | _, _, _ + 1, .nil => .nil
  | _, _, n + 1, .cons _ b => RepL.drop n b
theorem RepL.take {K : PySem.W.Frag} : ∀ {vs : List V} {ds : List D} (n : Nat), RepL K N Hb vs ds → RepL K N Hb (vs.take n) (ds.take n)
  | _, _, 0, _ => .nil
  | _, _, _ + 1, .nil => .nil
  | _, _, n + 1, .cons a b => .cons a (RepL.take n b)
theorem RepL.cut {K : PySem.W.Frag} {vs : List V} {ds : List D} (h : RepL K N Hb vs ds) (lo hi : Option Int) : RepL K N Hb (cutV vs lo hi) (cutD ds lo hi) := by
  unfold cutV cutD
  rw [RepL.length h]
  exact (h.drop _).take _
theorem RepL.rev {K : PySem.W.Frag} {vs : List V} {ds : List D} (h : RepL K N Hb vs ds) : RepL K N Hb vs.reverse ds.reverse := by
  induction vs generalizing ds with
  | nil => cases h; exact .nil
  | cons v vs ih =>
    cases h with
    | cons a b =>
      rw [List.reverse_cons, List.reverse_cons]
      exact (ih b).app (.cons a .nil)
theorem RepL.set {K : PySem.W.Frag} : ∀ {vs : List V} {ds : List D} {v : V} {d : D} (i : Nat), RepL K N Hb vs ds → Rep K N Hb v d → RepL K N Hb (vs.set i v) (ds.set i d)
  | _, _, _, _, _, .nil, _ => .nil
  | _, _, _, _, 0, .cons _ b, h => .cons h b
  | _, _, _, _, i + 1, .cons a b, h => .cons a (RepL.set i b h)
theorem szOk_le {n : Nat} (h : szOk n = true) : n ≤ sizeLine := by
  rw [sizeLine_eq]; exact of_decide_eq_true h

/-! ### results -/
/-- a result that changes nothing -/
theorem fin_dat {K : PySem.W.Frag} {Q : V → Hp → Prop} (g : Good K N σ δ Hb H) (h : Rep K N Hb v d)
    (q : ∀ v Hb' H', Stp σ δ Hb H σ δ Hb' H' → Good K N σ δ Hb' H' → RR K N σ δ Hb' H H' v (.dat d) → Q v H') : Q v H := q v Hb H Stp.refl g h
theorem own_lt (g : Good X.K N σ δ Hb H) {p : Addr} (h : Own σ δ p) : H p ≠ none := by
  obtain ⟨i, d, a, b⟩ := h
  obtain ⟨q, o, c, _, f, _⟩ := g.own i d a
  rw [b] at c
  cases c
  exact ne_none f
theorem own_ltK {K : PySem.W.Frag} (g : Good K N σ δ Hb H) {p : Addr} (h : Own σ δ p) : H p ≠ none := by
  obtain ⟨i, d, a, b⟩ := h
  obtain ⟨q, o, c, _, f, _⟩ := g.own i d a
  rw [b] at c
  cases c
  exact ne_none f
/-- a new object, owned by nobody yet -/
theorem fin_own {K : PySem.W.Frag} {Q : V → Hp → Prop} {p : Addr} {o : HO} (g : Good K N σ δ Hb H) (hp : H p = none) (c : Cnt K N Hb o d)
    (q : ∀ v Hb' H', Stp σ δ Hb H σ δ Hb' H' → Good K N σ δ Hb' H' → RR K N σ δ Hb' H H' v (.own d) → Q v H') : Q (.ref p) (upd H p o) := by
  refine q _ Hb _ (Stp.laid hp) (g.laid hp) ⟨p, o, rfl, hp, ?_, upd_same, c, fun z => own_ltK g z hp⟩
  cases e : Hb p with
  | none => rfl
  | some u => rw [g.ex p u e] at hp; cases hp
/-- a new object, data at once -/
theorem fin_new {K : PySem.W.Frag} {Q : V → Hp → Prop} {p : Addr} {o : HO} (g : Good K N σ δ Hb H) (hp : H p = none) (c : Rep K N (upd Hb p o) (.ref p) d)
    (q : ∀ v Hb' H', Stp σ δ Hb H σ δ Hb' H' → Good K N σ δ Hb' H' → RR K N σ δ Hb' H H' v (.dat d) → Q v H') : Q (.ref p) (upd H p o) := by
  have hb : Hb p = none := by
    cases e : Hb p with
    | none => rfl
    | some u => rw [g.ex p u e] at hp; cases hp
  have g1 := g.laid (o := o) hp
  have no : ¬ Own σ δ p := fun z => own_ltK g z hp
  refine q _ (upd Hb p o) _ ⟨Ex.new hb, fun a h n => ?_, (Stp.laid (σ := σ) (δ := δ) (Hb := Hb) hp).frame, (Stp.laid (σ := σ) (δ := δ) (Hb := Hb) hp).dom, fun _ z => .inl z⟩ (g1.froz upd_same hb no) c
  refine .inl ?_
  rw [upd_ne]
  · exact h
  · rintro rfl
    exact n hp
theorem hb_none {K : PySem.W.Frag} (g : Good K N σ δ Hb H) {p : Addr} (hp : H p = none) : Hb p = none := by
  cases e : Hb p with
  | none => rfl
  | some u => rw [g.ex p u e] at hp; cases hp

/-! ### two operands -/
/-- the operation f on things that read d and e gives r -/
def OpOk (X : Cx) (N : Nm) (f : Value → Value → Sem Value) (d e : D) (r : R) : Prop :=
  ∃ rd, OpR X f rd ∧ ∀ (σ : L2.St) (δ : Env) (Hb H : Hp) (v u : V) (Q : VK), Good X.K N σ δ Hb H → Vw X.K N Hb H v d → Vw X.K N Hb H u e →
    (∀ v' Hb' H', Stp σ δ Hb H σ δ Hb' H' → Good X.K N σ δ Hb' H' → RR X.K N σ δ Hb' H H' v' r → Q v' H') → rd v u H Q
def opB : BO → Operator
  | .add => .Add | .sub => .Sub | .mul => .Mult | .fdiv => .FloorDiv | .mod => .Mod | .pow => .Pow
def opC : CO → CmpOp
  | .eq => .Eq | .ne => .NotEq | .lt => .Lt | .le => .LtE | .gt => .Gt | .ge => .GtE | .is => .Is | .isn => .IsNot | .inn => .In | .nin => .NotIn
def CDivB (_ j : Int) : Prop := j ≠ 0 ∧ j.natAbs.log2 < 9000
theorem op_fdivB : OpR X (binaryOp .FloorDiv) (rI CDivB fun i j => .int (i.fdiv j)) := opI fun _ _ _ _ _ _ _ hc q => PyProof.Rows.floordiv_int hc.1 q (.inl (PyProof.noPylong_of_log2 hc.2))
theorem op_mulB : OpR X (binaryOp .Mult) (rI (fun i j => i.natAbs.log2 + j.natAbs.log2 < 1000000) fun i j => .int (i * j)) := opI fun i j _ _ _ _ _ hc q => by
  refine PyProof.Rows.mul_int q ?_
  have b : ∀ x : Int, Builtin.Int.intBits x ≤ x.natAbs.log2 + 1 := fun x => by
    unfold Builtin.Int.intBits
    split <;> omega
  have h1 := b i
  have h2 := b j
  have e : bitsLine = 134217728 := by decide
  unfold IntMulOk
  intro z
  rw [Bool.and_eq_true] at z
  have z2 := z.2
  unfold Builtin.Int.intTooBig at z2
  have z3 := of_decide_eq_true z2
  rw [e] at z3
  omega
theorem RepL.rep {K : PySem.W.Frag} {N : Nm} {H : Hp} {xs : List V} {ds : List D} (h : RepL K N H xs ds) : ∀ n : Nat, RepL K N H (List.replicate n xs).flatten (List.replicate n ds).flatten
  | 0 => .nil
  | n + 1 => by
    rw [List.replicate_succ, List.replicate_succ, List.flatten_cons, List.flatten_cons]
    exact h.app (RepL.rep h n)
theorem binD_ok {o : BO} (h : binD o d e = some r) : OpOk X N (binaryOp (opB o)) d e r := by
  unfold binD at h
  split at h
  · cases h
    refine ⟨_, op_add, fun σ δ Hb H v u Q g hv hu q => ?_⟩
    cases hv.int; cases hu.int
    exact ⟨_, _, rfl, rfl, fin_dat g (.int _) q⟩
  · split at h
    · rename_i hz
      cases h
      refine ⟨_, op_add_str, fun σ δ Hb H v u Q g hv hu q => ?_⟩
      cases hv.str; cases hu.str
      exact ⟨_, _, rfl, rfl, szOk_le hz, fin_dat g (.str _) q⟩
    · cases h
  · split at h
    · rename_i hz
      cases h
      refine ⟨_, op_cat, fun σ δ Hb H v u Q g hv hu q => ?_⟩
      obtain ⟨a, xs, rfl, ha, ra⟩ := hv.lst g.ex
      obtain ⟨b, ys, rfl, hb, rb⟩ := hu.lst g.ex
      exact ⟨a, b, xs, ys, rfl, rfl, ha, hb, by rw [RepL.length ra, RepL.length rb]; exact szOk_le hz, fun p hp => fin_own g hp (.lst (ra.app rb)) q⟩
    · cases h
  · split at h
    · rename_i hz
      cases h
      refine ⟨_, op_catA, fun σ δ Hb H v u Q g hv hu q => ?_⟩
      obtain ⟨a, xs, rfl, ha, ra⟩ := hv.tup g.ex
      obtain ⟨b, ys, rfl, hb, rb⟩ := hu.tup g.ex
      refine ⟨a, b, xs, ys, rfl, rfl, .of ha, .of hb, by rw [RepL.length ra, RepL.length rb]; exact szOk_le hz, fun e => ?_, fun _ e => ?_, fun _ _ p hp => ?_⟩
      · subst e
        cases ra
        rw [List.nil_append] at q
        rcases hu with hu | ⟨_, _, _, _, c⟩
        · exact fin_dat g hu q
        · cases c
      · subst e
        cases rb
        rw [List.append_nil] at q
        rcases hv with hv | ⟨_, _, _, _, c⟩
        · exact fin_dat g hv q
        · cases c
      · have hbp := hb_none g hp
        exact fin_new g hp (.tup upd_same ((ra.app rb).mono (Ex.new hbp))) q
    · cases h
  · cases h
    refine ⟨_, op_sub, fun σ δ Hb H v u Q g hv hu q => ?_⟩
    cases hv.int; cases hu.int
    exact ⟨_, _, rfl, rfl, fin_dat g (.int _) q⟩
  · split at h
    · rename_i hz
      cases h
      refine ⟨_, op_mulB, fun σ δ Hb H v u Q g hv hu q => ?_⟩
      cases hv.int; cases hu.int
      exact ⟨_, _, rfl, rfl, of_decide_eq_true hz, fin_dat g (.int _) q⟩
    · cases h
  · split at h
    · rename_i hz
      cases h
      refine ⟨_, op_repT, fun σ δ Hb H v u Q g hv hu q => ?_⟩
      obtain ⟨a, xs, rfl, ha, ra⟩ := hv.tup g.ex
      cases hu.int
      simp only [Bool.and_eq_true, Bool.not_eq_true', decide_eq_true_eq] at hz
      obtain ⟨⟨⟨z1, z2⟩, z3⟩, z4⟩ := hz
      refine ⟨a, _, xs, rfl, rfl, .of ha, (fun e => ?_), z2, z3, by rw [RepL.length ra]; exact z4, fun p hp => ?_⟩
      · subst e
        cases ra
        cases z1
      · have hbp := hb_none g hp
        exact fin_new g hp (.tup upd_same ((RepL.rep ra _).mono (Ex.new hbp))) q
    · cases h
  · split at h
    · rename_i hz
      cases h
      refine ⟨_, op_fdivB, fun σ δ Hb H v u Q g hv hu q => ?_⟩
      cases hv.int; cases hu.int
      have hz' := Bool.and_eq_true_iff.mp hz
      exact ⟨_, _, rfl, rfl, ⟨of_decide_eq_true hz'.1, of_decide_eq_true hz'.2⟩, fin_dat g (.int _) q⟩
    · cases h
  · split at h
    · rename_i hz
      cases h
      refine ⟨_, op_modN, fun σ δ Hb H v u Q g hv hu q => ?_⟩
      cases hv.int; cases hu.int
      exact ⟨_, _, rfl, rfl, of_decide_eq_true hz, fin_dat g (.int _) q⟩
    · cases h
  · split at h
    · rename_i hz
      cases h
      refine ⟨_, op_pow, fun σ δ Hb H v u Q g hv hu q => ?_⟩
      cases hv.int; cases hu.int
      have hz' := Bool.and_eq_true_iff.mp hz
      have hz2 := Bool.and_eq_true_iff.mp hz'.1
      exact ⟨_, _, rfl, rfl, ⟨of_decide_eq_true hz2.1, of_decide_eq_true hz2.2, of_decide_eq_true hz'.2⟩, fin_dat g (.int _) q⟩
    · cases h
  · cases h
end
end Rl

set_option Elab.async false
set_option linter.all false
set_option maxRecDepth 100000
set_option maxHeartbeats 4000000
/-! Lay F: comparisons, subscripts. -/
namespace Rl
open PySem L2
section
variable {X : Cx} {N : Nm} {σ : L2.St} {δ : Env} {Hb H H0 : Hp} {v u : V} {d e : D} {r : R}
mutual
theorem Rep.dp {K : PySem.W.Frag} : ∀ {v : V} {d : D} {p : PyData}, Rep K N H v d → toPy d = some p → Dp K H v p
  | _, _, _, .non, e => by cases (Option.some.inj e); exact .non
  | _, _, _, .bl b, e => by cases (Option.some.inj e); exact .bl b
  | _, _, _, .int b, e => by cases (Option.some.inj e); exact .int b
  | _, _, _, .str b, e => by cases (Option.some.inj e); exact .str b
  | _, .tup ds, p, .tup h r, e => by
    have e' : (toPys ds).map PyData.tuple = some p := e
    cases q : toPys ds with
    | none => rw [q] at e'; cases e'
    | some ps => rw [q] at e'; cases (Option.some.inj e'); exact .tup (.of h) (RepL.dp r q)
  | _, .lst ds, p, .lst h r, e => by
    have e' : (toPys ds).map PyData.list = some p := e
    cases q : toPys ds with
    | none => rw [q] at e'; cases e'
    | some ps => rw [q] at e'; cases (Option.some.inj e'); exact .lst (.of h) (RepL.dp r q)
  | _, _, _, .dct _ _, e => by cases e
  | _, _, _, .dtt _ _, e => by cases e
  | _, _, _, .ins _ _ _, e => by cases e
  | _, _, _, .fn _, e => by cases e
  | _, _, _, .scr _ _, e => by cases e
  | _, _, _, .ctp _ _, e => by cases e
theorem RepL.dp {K : PySem.W.Frag} : ∀ {vs : List V} {ds : List D} {ps : List PyData}, RepL K N H vs ds → toPys ds = some ps → DpAll K H vs ps
  | _, _, _, .nil, e => by cases (Option.some.inj e); exact .nil
  | _, d :: ds, ps, .cons a b, e => by
    unfold toPys at e
    cases q : toPy d with
    | none => rw [q] at e; cases e
    | some p =>
      cases q2 : toPys ds with
      | none => rw [q, q2] at e; cases e
      | some ps' => rw [q, q2] at e; cases (Option.some.inj e); exact .cons (Rep.dp a q) (RepL.dp b q2)
end
theorem eqD_some {b : Bool} (h : eqD d e = some b) : ∃ p q, toPy d = some p ∧ toPy e = some q ∧ SeqAt.shaped p = true ∧ SeqAt.shaped q = true ∧ b = PyData.eqv p q := by
  unfold eqD at h
  cases h1 : toPy d with
  | none => rw [h1] at h; cases h
  | some p =>
    cases h2 : toPy e with
    | none => rw [h1, h2] at h; cases h
    | some q =>
      rw [h1, h2] at h
      have h' : (if (SeqAt.shaped p && SeqAt.shaped q) = true then some (PyData.eqv p q) else none) = some b := h
      split at h'
      · rename_i hz
        have hz' := Bool.and_eq_true_iff.mp hz
        exact ⟨p, q, rfl, rfl, hz'.1, hz'.2, (Option.some.inj h').symm⟩
      · cases h'
theorem Rep.flat {K : PySem.W.Frag} (h : Rep K N Hb v d) (f : flatD d = true) : flatV v = true ∧ scV d = some v := by
  cases h <;> first | exact ⟨rfl, rfl⟩ | cases f
theorem RepL.flat {K : PySem.W.Frag} : ∀ {vs : List V} {ds : List D}, RepL K N Hb vs ds → ds.all flatD = true → vs.all flatV = true
  | _, _, .nil, _ => rfl
  | _, _, .cons a b, f => by
    rw [List.all_cons, Bool.and_eq_true] at f ⊢
    exact ⟨(a.flat f.1).1, RepL.flat b f.2⟩
theorem eqF_of {K : PySem.W.Frag} {d e : D} {v u : V} (h : Rep K N Hb v d) (h' : Rep K N Hb u e) (f : flatD d = true) (f' : flatD e = true) : eqF d e = L2.eqV v u := by
  unfold eqF
  rw [(h.flat f).2, (h'.flat f').2]
theorem RepL.inV {K : PySem.W.Frag} {x : D} {y : V} (hx : Rep K N Hb y x) (fx : flatD x = true) : ∀ {vs : List V} {ds : List D}, RepL K N Hb vs ds → ds.all flatD = true → (ds.any fun z => eqF z x) = L2.inV y vs
  | _, _, .nil, _ => rfl
  | _, _, .cons a b, f => by
    rw [List.all_cons, Bool.and_eq_true] at f
    unfold L2.inV
    rw [List.any_cons, List.any_cons, eqF_of a hx f.1 fx, RepL.inV hx fx b f.2]
    rfl
theorem Vw.flat {K : PySem.W.Frag} (h : Vw K N Hb H v d) (f : flatD d = true) : Rep K N Hb v d := by
  rcases h with h | ⟨p, o, q, a, b⟩
  · exact h
  · cases b <;> cases f
theorem keyD_v {K : PySem.W.Frag} {k : Key} (h : Vw K N Hb H v d) (e : keyD d = some k) : v = kV k := by
  unfold keyD at e
  split at e
  · cases e; exact h.int
  · cases e; exact h.str
  · cases e
theorem RepK.val {K : PySem.W.Frag} (k : Key) : ∀ {xs : List (Key × V)} {ds : List (Key × D)}, RepK K N Hb xs ds → (match valV xs k, getK ds k with | some v, some d => Rep K N Hb v d | none, none => True | _, _ => False)
  | _, _, .nil => True.intro
  | _, _, .cons (k := k') (v := v) (d := d) (vs := vs) (ds := ds) a b => by
    have ih := RepK.val k b
    by_cases q : k' = k
    · have e1 : valV ((k', v) :: vs) k = some v := valV_pos q
      have e2 : getK ((k', d) :: ds) k = some d := by simp [getK, List.find?_cons, q]
      rw [e1, e2]
      exact a
    · have e1 : valV ((k', v) :: vs) k = valV vs k := valV_neg q
      have e2 : getK ((k', d) :: ds) k = getK ds k := by simp [getK, List.find?_cons, q]
      rw [e1, e2]
      exact ih
theorem RepK.isSome {K : PySem.W.Frag} {xs : List (Key × V)} {ds : List (Key × D)} (h : RepK K N Hb xs ds) (k : Key) : (valV xs k).isSome = (getK ds k).isSome := by
  have := h.val k
  cases h1 : valV xs k <;> cases h2 : getK ds k <;> rw [h1, h2] at this <;> first | rfl | exact this.elim
theorem RepK.some {K : PySem.W.Frag} {xs : List (Key × V)} {ds : List (Key × D)} (h : RepK K N Hb xs ds) {k : Key} {d : D} (e : getK ds k = some d) : ∃ v, valV xs k = some v ∧ Rep K N Hb v d := by
  have := h.val k
  rw [e] at this
  cases h1 : valV xs k with
  | none => rw [h1] at this; exact this.elim
  | some v => rw [h1] at this; exact ⟨v, rfl, this⟩
theorem RepK.none {K : PySem.W.Frag} {xs : List (Key × V)} {ds : List (Key × D)} (h : RepK K N Hb xs ds) {k : Key} (e : getK ds k = none) : valV xs k = none := by
  have := h.isSome k
  rw [e] at this
  cases q : valV xs k with
  | none => rfl
  | some v => rw [q] at this; cases this
theorem RepT.val {K : PySem.W.Frag} (k : List Key) : ∀ {xs : List (List Key × V)} {ds : List (List Key × D)}, RepT K N Hb xs ds → (match valV xs k, getK ds k with | some v, some d => Rep K N Hb v d | none, none => True | _, _ => False)
  | _, _, .nil => True.intro
  | _, _, .cons (k := k') (v := v) (d := d) (vs := vs) (ds := ds) a b => by
    have ih := RepT.val k b
    by_cases q : k' = k
    · have e1 : valV ((k', v) :: vs) k = some v := valV_pos q
      have e2 : getK ((k', d) :: ds) k = some d := by simp [getK, List.find?_cons, q]
      rw [e1, e2]
      exact a
    · have e1 : valV ((k', v) :: vs) k = valV vs k := valV_neg q
      have e2 : getK ((k', d) :: ds) k = getK ds k := by simp [getK, List.find?_cons, q]
      rw [e1, e2]
      exact ih
theorem RepT.some {K : PySem.W.Frag} {xs : List (List Key × V)} {ds : List (List Key × D)} (h : RepT K N Hb xs ds) {k : List Key} {d : D} (e : getK ds k = some d) : ∃ v, valV xs k = some v ∧ Rep K N Hb v d := by
  have := h.val k
  rw [e] at this
  cases h1 : valV xs k with
  | none => rw [h1] at this; exact this.elim
  | some v => rw [h1] at this; exact ⟨v, rfl, this⟩
theorem RepT.none {K : PySem.W.Frag} {xs : List (List Key × V)} {ds : List (List Key × D)} (h : RepT K N Hb xs ds) {k : List Key} (e : getK ds k = none) : valV xs k = none := by
  have := h.val k
  rw [e] at this
  cases q : valV xs k with
  | none => rfl
  | some v => rw [q] at this; exact this.elim
theorem keysD_v {K : PySem.W.Frag} : ∀ {vs : List V} {ds : List D} {ks : List Key}, RepL K N Hb vs ds → keysD ds = some ks → vs = ks.map kV
  | _, _, _, .nil, e => by cases (Option.some.inj e); rfl
  | _, d :: ds, ks, .cons a b, e => by
    unfold keysD at e
    cases q : keyD d with
    | none => rw [q] at e; cases e
    | some k =>
      cases q2 : keysD ds with
      | none => rw [q, q2] at e; cases e
      | some ks' =>
        rw [q, q2] at e
        cases (Option.some.inj e)
        rw [keyD_v (H := Hb) (.inl a) q, keysD_v b q2]
        rfl

/-! ### comparisons (not of dicts and own things) -/
theorem notO_some {x : Option Bool} {b : Bool} (h : notO x = some b) : ∃ b', x = some b' ∧ b = !b' := by
  cases x with
  | none => cases h
  | some b' => exact ⟨b', rfl, (Option.some.inj h).symm⟩
theorem inD_some {x : D} {l : List D} {b : Bool} (h : inD x l = some b) : flatD x = true ∧ l.all flatD = true ∧ b = l.any fun y => eqF y x := by
  unfold inD at h
  split at h
  · rename_i hz
    have hz' := Bool.and_eq_true_iff.mp hz
    exact ⟨hz'.1, hz'.2, (Option.some.inj h).symm⟩
  · cases h
theorem Vw.isNon {K : PySem.W.Frag} (h : Vw K N Hb H v d) : decide (v = .non) = isNon d := by
  rcases h with h | ⟨p, o, rfl, _, c⟩
  · cases h <;> rfl
  · cases c <;> rfl
theorem op_isA {X : Cx} : OpR X (compareOp .Is) (fun x y H Q => y = .non ∧ Q (.bl (decide (x = .non))) H) := op_isN
theorem cmpD_ok {o : CO} {b : Bool} (hu : X.A.units + 64 < cLine) (h : cmpD o d e = some b) (hk : ∀ l, e = .dct l → False) : OpOk X N (compareOp (opC o)) d e (.dat (.bl b)) := by
  unfold cmpD at h
  split at h
  · obtain ⟨p, q, h1, h2, h3, h4, rfl⟩ := eqD_some h
    refine ⟨_, op_eqD hu, fun σ δ Hb H v u Q g hv hu q' => ?_⟩
    exact ⟨p, q, (hv.rep g.ex).dp h1, (hu.rep g.ex).dp h2, h3, h4, fin_dat g (.bl _) q'⟩
  · obtain ⟨b', z, rfl⟩ := notO_some h
    obtain ⟨p, q, h1, h2, h3, h4, rfl⟩ := eqD_some z
    refine ⟨_, op_neD hu, fun σ δ Hb H v u Q g hv hu q' => ?_⟩
    exact ⟨p, q, (hv.rep g.ex).dp h1, (hu.rep g.ex).dp h2, h3, h4, fin_dat g (.bl _) q'⟩
  · cases h
    refine ⟨_, op_lt, fun σ δ Hb H v u Q g hv hu q => ?_⟩
    cases hv.int; cases hu.int
    exact ⟨_, _, rfl, rfl, fin_dat g (.bl _) q⟩
  · cases h
    refine ⟨_, op_le, fun σ δ Hb H v u Q g hv hu q => ?_⟩
    cases hv.int; cases hu.int
    exact ⟨_, _, rfl, rfl, fin_dat g (.bl _) q⟩
  · cases h
    refine ⟨_, op_gt, fun σ δ Hb H v u Q g hv hu q => ?_⟩
    cases hv.int; cases hu.int
    exact ⟨_, _, rfl, rfl, fin_dat g (.bl _) q⟩
  · cases h
    refine ⟨_, op_ge, fun σ δ Hb H v u Q g hv hu q => ?_⟩
    cases hv.int; cases hu.int
    exact ⟨_, _, rfl, rfl, fin_dat g (.bl _) q⟩
  · cases h
    refine ⟨_, op_isN, fun σ δ Hb H v u Q g hv hu q => ?_⟩
    cases hu.non
    rw [← hv.isNon] at q
    exact ⟨rfl, fin_dat g (.bl _) q⟩
  · cases h
    refine ⟨_, op_notN, fun σ δ Hb H v u Q g hv hu q => ?_⟩
    cases hu.non
    rw [← hv.isNon] at q
    exact ⟨rfl, fin_dat g (.bl _) q⟩
  · obtain ⟨f1, f2, rfl⟩ := inD_some h
    refine ⟨_, op_in_seq, fun σ δ Hb H v u Q g hv hu q => ?_⟩
    have hv' := hv.flat f1
    obtain ⟨a, xs, rfl, ha, ra⟩ := hu.lst g.ex
    rw [RepL.inV hv' f1 ra f2] at q
    exact ⟨a, xs, rfl, .inl (.of ha), (hv'.flat f1).1, ra.flat f2, fin_dat g (.bl _) q⟩
  · obtain ⟨f1, f2, rfl⟩ := inD_some h
    refine ⟨_, op_in_seq, fun σ δ Hb H v u Q g hv hu q => ?_⟩
    have hv' := hv.flat f1
    obtain ⟨a, xs, rfl, ha, ra⟩ := hu.tup g.ex
    rw [RepL.inV hv' f1 ra f2] at q
    exact ⟨a, xs, rfl, .inr (.of ha), (hv'.flat f1).1, ra.flat f2, fin_dat g (.bl _) q⟩
  · obtain ⟨f1, f2, rfl⟩ := inD_some h
    refine ⟨_, op_in_seq, fun σ δ Hb H v u Q g hv hu q => ?_⟩
    have hv' := hv.flat f1
    obtain ⟨a, xs, rfl, ha, ra⟩ := hu.ctp g.ex
    rw [RepL.inV hv' f1 ra f2] at q
    exact ⟨a, xs, rfl, .inr ha, (hv'.flat f1).1, ra.flat f2, fin_dat g (.bl _) q⟩
  · exact absurd rfl (fun z => hk _ z)
  · obtain ⟨b', h', rfl⟩ := notO_some h
    obtain ⟨f1, f2, rfl⟩ := inD_some h'
    refine ⟨_, op_notIn_seq, fun σ δ Hb H v u Q g hv hu q => ?_⟩
    have hv' := hv.flat f1
    obtain ⟨a, xs, rfl, ha, ra⟩ := hu.lst g.ex
    rw [RepL.inV hv' f1 ra f2] at q
    exact ⟨a, xs, rfl, .inl (.of ha), (hv'.flat f1).1, ra.flat f2, fin_dat g (.bl _) q⟩
  · obtain ⟨b', h', rfl⟩ := notO_some h
    obtain ⟨f1, f2, rfl⟩ := inD_some h'
    refine ⟨_, op_notIn_seq, fun σ δ Hb H v u Q g hv hu q => ?_⟩
    have hv' := hv.flat f1
    obtain ⟨a, xs, rfl, ha, ra⟩ := hu.tup g.ex
    rw [RepL.inV hv' f1 ra f2] at q
    exact ⟨a, xs, rfl, .inr (.of ha), (hv'.flat f1).1, ra.flat f2, fin_dat g (.bl _) q⟩
  · obtain ⟨b', h', rfl⟩ := notO_some h
    obtain ⟨f1, f2, rfl⟩ := inD_some h'
    refine ⟨_, op_notIn_seq, fun σ δ Hb H v u Q g hv hu q => ?_⟩
    have hv' := hv.flat f1
    obtain ⟨a, xs, rfl, ha, ra⟩ := hu.ctp g.ex
    rw [RepL.inV hv' f1 ra f2] at q
    exact ⟨a, xs, rfl, .inr ha, (hv'.flat f1).1, ra.flat f2, fin_dat g (.bl _) q⟩
  · exact absurd rfl (fun z => hk _ z)
  · cases h
    refine ⟨_, op_in_str, fun σ δ Hb H v u Q g hv hu q => ?_⟩
    cases hv.str; cases hu.str
    exact ⟨_, _, rfl, rfl, fin_dat g (.bl _) q⟩
  · cases h
    refine ⟨_, op_notIn_str, fun σ δ Hb H v u Q g hv hu q => ?_⟩
    cases hv.str; cases hu.str
    exact ⟨_, _, rfl, rfl, fin_dat g (.bl _) q⟩
  · cases h

/-! ### built-in calls -/
def CallOk (X : Cx) (N : Nm) (f : Value) (ds : List D) (r : R) : Prop :=
  ∃ rd, CallR X f rd ∧ ∀ (σ : L2.St) (δ : Env) (Hb H : Hp) (vs : List V) (Q : VK), Good X.K N σ δ Hb H → VwL X.K N Hb H vs ds →
    (∀ v' Hb' H', Stp σ δ Hb H σ δ Hb' H' → Good X.K N σ δ Hb' H' → RR X.K N σ δ Hb' H H' v' r → Q v' H') → rd vs H Q
theorem intsD_v {K : PySem.W.Frag} : ∀ {vs : List V} {ds : List D} {ns : List Int}, RepL K N Hb vs ds → intsD ds = some ns → vs = ns.map V.int
  | _, _, _, .nil, e => by cases (Option.some.inj e); rfl
  | _, d :: ds, ns, .cons a b, e => by
    unfold intsD at e
    split at e
    · rename_i h; cases h
    · rename_i i r h
      cases h
      cases a
      cases q : intsD ds with
      | none => rw [q] at e; cases e
      | some ns' => rw [q] at e; cases (Option.some.inj e); rw [intsD_v b q]; rfl
    · cases e
theorem blsD_v {K : PySem.W.Frag} : ∀ {vs : List V} {ds : List D} {ns : List Bool}, RepL K N Hb vs ds → blsD ds = some ns → vs = ns.map V.bl
  | _, _, _, .nil, e => by cases (Option.some.inj e); rfl
  | _, d :: ds, ns, .cons a b, e => by
    unfold blsD at e
    split at e
    · rename_i h; cases h
    · rename_i i r h
      cases h
      cases a
      cases q : blsD ds with
      | none => rw [q] at e; cases e
      | some ns' => rw [q] at e; cases (Option.some.inj e); rw [blsD_v b q]; rfl
    · cases e
theorem strsD_v {K : PySem.W.Frag} : ∀ {vs : List V} {ds : List D} {ns : List Str}, RepL K N Hb vs ds → strsD ds = some ns → vs = ns.map V.str
  | _, _, _, .nil, e => by cases (Option.some.inj e); rfl
  | _, d :: ds, ns, .cons a b, e => by
    unfold strsD at e
    split at e
    · rename_i h; cases h
    · rename_i i r h
      cases h
      cases a
      cases q : strsD ds with
      | none => rw [q] at e; cases e
      | some ns' => rw [q] at e; cases (Option.some.inj e); rw [strsD_v b q]; rfl
    · cases e
theorem maxI_is : ∀ {ns : List Int} {m : Int}, maxI ns = some m → m ∈ ns ∧ ∀ y ∈ ns, y ≤ m
  | [], _, h => by cases h
  | [i], m, h => by cases (Option.some.inj h); exact ⟨List.mem_cons_self, fun y hy => by simp at hy; omega⟩
  | i :: j :: r, m, h => by
    have h' : (maxI (j :: r)).map (fun m => if i < m then m else i) = some m := h
    cases q : maxI (j :: r) with
    | none => rw [q] at h'; cases h'
    | some m' =>
      rw [q] at h'
      have ih := maxI_is q
      have e : (if i < m' then m' else i) = m := Option.some.inj h'
      split at e
      · subst e
        exact ⟨List.mem_cons_of_mem _ ih.1, fun y hy => by
          rcases List.mem_cons.mp hy with z | z
          · omega
          · exact ih.2 y z⟩
      · subst e
        exact ⟨List.mem_cons_self, fun y hy => by
          rcases List.mem_cons.mp hy with z | z
          · omega
          · have := ih.2 y z; omega⟩
theorem VwL.one {K : PySem.W.Frag} {vs : List V} {d : D} (h : VwL K N Hb H vs [d]) : ∃ v, vs = [v] ∧ Vw K N Hb H v d := by
  cases h with | cons a b => cases b; exact ⟨_, rfl, a⟩
theorem VwL.two {K : PySem.W.Frag} {vs : List V} {d e : D} (h : VwL K N Hb H vs [d, e]) : ∃ v u, vs = [v, u] ∧ Vw K N Hb H v d ∧ Vw K N Hb H u e := by
  cases h with | cons a b => cases b with | cons c f => cases f; exact ⟨_, _, rfl, a, c⟩
theorem RepK.keys {K : PySem.W.Frag} : ∀ {xs : List (Key × V)} {ds : List (Key × D)}, RepK K N Hb xs ds → RepL K N Hb (xs.map fun kv => kV kv.1) (ds.map fun kv => kD kv.1)
  | _, _, .nil => .nil
  | _, _, .cons (k := k) a b => .cons (by cases k <;> constructor) (RepK.keys b)
theorem RepK.length {K : PySem.W.Frag} : ∀ {xs : List (Key × V)} {ds : List (Key × D)}, RepK K N Hb xs ds → xs.length = ds.length
  | _, _, .nil => rfl
  | _, _, .cons a b => by simp [RepK.length b]
theorem cr_sumT (hc : X.calm = true) : CallR X (.builtin "sum") (fun vs H Q => ∃ (a : Addr) (ns : List Int), vs = [V.ref a] ∧ SqT X.K H a (ns.map V.int) ∧ Q (.int ns.sum) H) := by
  intro pins s σ H vs us Q I r h
  obtain ⟨a, ns, rfl, hs, q⟩ := h
  obtain ⟨its, rv, hl, _⟩ := I.tuple hs
  rw [Vals.ref1 r]
  have hi : PyProof.Rows.IntsAre its ns := rv.ints
  obtain ⟨xs, e⟩ := hi.allInts.items
  have hn : numsOf (intItems xs).toList = ns := by rw [← e]; exact hi.numsOf
  rw [nums_intItems] at hn
  have hl' : s.heap.IsTuple a its.toArray := hl
  rw [e] at hl'
  refine PySem.W.ktm_sumG (I.ok.hd hc) hl' fun h' tk t' hk => ⟨.int ns.sum, H, I.kept hk, ⟨t', ?_⟩, q⟩
  rw [preSum_eq, List.take_of_length_le (by simp), hn]
theorem cr_dict : CallR X (.type "dict") (fun vs H Q => ∃ (a : Addr) (kvs : List (Key × V)), vs = [V.ref a] ∧ H a = some (.dK kvs) ∧ ∀ p, H p = none → Q (.ref p) (upd H p (.dK kvs))) := by
  intro pins s σ H vs us Q I r h
  obtain ⟨a, kvs, rfl, hs, q⟩ := h
  rw [Vals.ref1 r]
  exact d_copyOf I (.inl hs) fun p s' hp I' => ⟨.ref p, _, I', rfl, q p hp⟩
def blF : Bl → Value
  | .len => .builtin "len" | .abs => .builtin "abs" | .max => .builtin "max" | .sum => .builtin "sum" | .all => .builtin "all" | .any => .builtin "any"
  | .list => .type "list" | .tuple => .type "tuple" | .dict => .type "dict" | .int => .type "int" | .str => .type "str"
def blN : Bl → Str
  | .len => "len" | .abs => "abs" | .max => "max" | .sum => "sum" | .all => "all" | .any => "any"
  | .list => "list" | .tuple => "tuple" | .dict => "dict" | .int => "int" | .str => "str"
theorem map_some {α β : Type} {x : Option α} {f : α → β} {b : β} (h : x.map f = some b) : ∃ a, x = some a ∧ b = f a := by
  cases x with
  | none => cases h
  | some a => exact ⟨a, rfl, (Option.some.inj h).symm⟩
theorem bltD_ok {b : Bl} {ds : List D} (hc : X.calm = true) (h : bltD b ds = some r) : CallOk X N (blF b) ds r := by
  unfold bltD at h
  split at h
  · cases h
    refine ⟨_, call_len_seq, fun σ δ Hb H vs Q g hv q => ?_⟩
    obtain ⟨v, rfl, h1⟩ := hv.one
    obtain ⟨a, xs, rfl, ha, ra⟩ := h1.lst g.ex
    rw [← RepL.length ra] at q
    exact ⟨a, xs, rfl, .inl (.of ha), fin_dat g (.int _) q⟩
  · cases h
    refine ⟨_, call_len_seq, fun σ δ Hb H vs Q g hv q => ?_⟩
    obtain ⟨v, rfl, h1⟩ := hv.one
    obtain ⟨a, xs, rfl, ha, ra⟩ := h1.scr g.ex
    rw [← RepL.length ra] at q
    exact ⟨a, xs, rfl, .inl ha, fin_dat g (.int _) q⟩
  · cases h
    refine ⟨_, call_len_seq, fun σ δ Hb H vs Q g hv q => ?_⟩
    obtain ⟨v, rfl, h1⟩ := hv.one
    obtain ⟨a, xs, rfl, ha, ra⟩ := h1.tup g.ex
    rw [← RepL.length ra] at q
    exact ⟨a, xs, rfl, .inr (.of ha), fin_dat g (.int _) q⟩
  · split at h
    · rename_i hz
      cases h
      refine ⟨_, call_len_str, fun σ δ Hb H vs Q g hv q => ?_⟩
      obtain ⟨v, rfl, h1⟩ := hv.one
      cases h1.str
      exact ⟨_, rfl, szOk_le hz, fin_dat g (.int _) q⟩
    · cases h
  · cases h
    refine ⟨_, call_lenD, fun σ δ Hb H vs Q g hv q => ?_⟩
    obtain ⟨v, rfl, h1⟩ := hv.one
    obtain ⟨a, xs, rfl, ha, ra⟩ := h1.dct g.ex
    rw [← RepK.length ra] at q
    exact ⟨a, xs, rfl, ha, fin_dat g (.int _) q⟩
  · cases h
    refine ⟨_, call_abs, fun σ δ Hb H vs Q g hv q => ?_⟩
    obtain ⟨v, rfl, h1⟩ := hv.one
    cases h1.int
    exact ⟨_, rfl, fin_dat g (.int _) q⟩
  · cases h
    refine ⟨_, call_max2 hc, fun σ δ Hb H vs Q g hv q => ?_⟩
    obtain ⟨v, u, rfl, h1, h2⟩ := hv.two
    cases h1.int; cases h2.int
    exact ⟨_, _, rfl, fin_dat g (.int _) q⟩
  · split at h
    · rename_i l ns hn
      obtain ⟨m, hm, rfl⟩ := map_some h
      refine ⟨_, cr_max hc, fun σ δ Hb H vs Q g hv q => ?_⟩
      obtain ⟨v, rfl, h1⟩ := hv.one
      obtain ⟨a, xs, rfl, ha, ra⟩ := h1.lst g.ex
      cases intsD_v ra hn
      have mm := maxI_is hm
      refine ⟨a, ns, rfl, .of ha, List.length_pos_of_mem mm.1, fun m' h3' h4' => ?_⟩
      have e : m' = m := by
        have h3 := h4' m mm.1
        have h4 := mm.2 m' h3'
        omega
      subst e
      exact fin_dat g (.int _) q
    · cases h
  · obtain ⟨ns, hn, rfl⟩ := map_some h
    refine ⟨_, cr_sum hc, fun σ δ Hb H vs Q g hv q => ?_⟩
    obtain ⟨v, rfl, h1⟩ := hv.one
    obtain ⟨a, xs, rfl, ha, ra⟩ := h1.lst g.ex
    cases intsD_v ra hn
    exact ⟨a, ns, rfl, .of ha, fin_dat g (.int _) q⟩
  · obtain ⟨ns, hn, rfl⟩ := map_some h
    refine ⟨_, cr_sumT hc, fun σ δ Hb H vs Q g hv q => ?_⟩
    obtain ⟨v, rfl, h1⟩ := hv.one
    obtain ⟨a, xs, rfl, ha, ra⟩ := h1.tup g.ex
    cases intsD_v ra hn
    exact ⟨a, ns, rfl, .of ha, fin_dat g (.int _) q⟩
  · obtain ⟨ns, hn, rfl⟩ := map_some h
    refine ⟨_, cr_all hc, fun σ δ Hb H vs Q g hv q => ?_⟩
    obtain ⟨v, rfl, h1⟩ := hv.one
    obtain ⟨a, xs, rfl, ha, ra⟩ := h1.lst g.ex
    cases blsD_v ra hn
    exact ⟨a, ns, rfl, .of ha, fin_dat g (.bl _) q⟩
  · obtain ⟨ns, hn, rfl⟩ := map_some h
    refine ⟨_, cr_any hc, fun σ δ Hb H vs Q g hv q => ?_⟩
    obtain ⟨v, rfl, h1⟩ := hv.one
    obtain ⟨a, xs, rfl, ha, ra⟩ := h1.lst g.ex
    cases blsD_v ra hn
    exact ⟨a, ns, rfl, .of ha, fin_dat g (.bl _) q⟩
  · cases h
    refine ⟨_, call_list_of, fun σ δ Hb H vs Q g hv q => ?_⟩
    obtain ⟨v, rfl, h1⟩ := hv.one
    obtain ⟨a, xs, rfl, ha, ra⟩ := h1.lst g.ex
    exact ⟨a, xs, rfl, .inl (.of ha), fun p hp => fin_own g hp (.lst ra) q⟩
  · cases h
    refine ⟨_, call_list_of, fun σ δ Hb H vs Q g hv q => ?_⟩
    obtain ⟨v, rfl, h1⟩ := hv.one
    obtain ⟨a, xs, rfl, ha, ra⟩ := h1.tup g.ex
    exact ⟨a, xs, rfl, .inr (.of ha), fun p hp => fin_own g hp (.lst ra) q⟩
  · cases h
    refine ⟨_, call_list_dK hc, fun σ δ Hb H vs Q g hv q => ?_⟩
    obtain ⟨v, rfl, h1⟩ := hv.one
    obtain ⟨a, xs, rfl, ha, ra⟩ := h1.dct g.ex
    exact ⟨a, xs, rfl, ha, fun p hp => fin_own g hp (.lst ra.keys) q⟩
  · cases h
    refine ⟨_, call_tuple_of, fun σ δ Hb H vs Q g hv q => ?_⟩
    obtain ⟨v, rfl, h1⟩ := hv.one
    obtain ⟨a, xs, rfl, ha, ra⟩ := h1.lst g.ex
    exact ⟨a, xs, rfl, .inl ⟨.of ha, fun p hp => fin_new g hp (.tup upd_same (ra.mono (Ex.new (hb_none g hp)))) q⟩⟩
  · cases h
    refine ⟨_, call_tuple_of, fun σ δ Hb H vs Q g hv q => ?_⟩
    obtain ⟨v, rfl, h1⟩ := hv.one
    have hv' := h1
    obtain ⟨a, xs, rfl, ha, ra⟩ := h1.tup g.ex
    refine ⟨a, xs, rfl, .inr ⟨.of ha, ?_⟩⟩
    rcases hv' with hv' | ⟨_, _, _, _, c⟩
    · exact fin_dat g hv' q
    · cases c
  · cases h
    refine ⟨_, cr_dict, fun σ δ Hb H vs Q g hv q => ?_⟩
    obtain ⟨v, rfl, h1⟩ := hv.one
    obtain ⟨a, xs, rfl, ha, ra⟩ := h1.dct g.ex
    exact ⟨a, xs, rfl, ha, fun p hp => fin_own g hp (.dct ra) q⟩
  · cases h
    refine ⟨_, call_int1, fun σ δ Hb H vs Q g hv q => ?_⟩
    obtain ⟨v, rfl, h1⟩ := hv.one
    cases h1.int
    exact .inl ⟨_, rfl, fin_dat g (.int _) q⟩
  · split at h
    · rename_i hz
      cases h
      refine ⟨_, call_str_int, fun σ δ Hb H vs Q g hv q => ?_⟩
      obtain ⟨v, rfl, h1⟩ := hv.one
      cases h1.int
      exact ⟨_, rfl, of_decide_eq_true hz, fin_dat g (.str _) q⟩
    · cases h
  · cases h
    refine ⟨_, SkE.call_str_str, fun σ δ Hb H vs Q g hv q => ?_⟩
    obtain ⟨v, rfl, h1⟩ := hv.one
    cases h1.str
    exact ⟨_, rfl, fin_dat g (.str _) q⟩
  · cases h
end
end Rl

set_option Elab.async false
set_option linter.all false
set_option maxRecDepth 100000
set_option maxHeartbeats 4000000
/-! Lay G: a rule for each expression. -/
namespace Rl
open PySem L2
section
variable {X : Cx} {k : Nat} {Ns : List Str} {sc : Scope} {N : Nm} {cf : Cfg} {pos : Pos}

theorem EPost.lift {K : PySem.W.Frag} {W : WX} {σ : L2.St} {δ δ1 : Env} {Hb H Hb1 H1 : Hp} {Q : VK} {res : Res R} (post : EPost K N W σ δ Hb H Q res) (s1 : Stp σ δ Hb H σ δ1 Hb1 H1) : EPost K N W σ δ1 Hb1 H1 Q res := by
  cases res with
  | ok r δ' => exact fun v Hb2 H2 s2 g2 r2 => post v Hb2 H2 (s1.trans s2) g2 (r2.base s1.dom)
  | ex c fs δ' => exact fun cv dd Hb2 H2 s2 g2 r2 => post cv dd Hb2 H2 (s1.trans s2) g2 r2
theorem TPost.lift {K : PySem.W.Frag} {W : WX} {σ : L2.St} {δ δ1 : Env} {Hb H Hb1 H1 : Hp} {Q : Bool → Hp → Prop} {res : Res Bool} (post : TPost K N W σ δ Hb H Q res) (s1 : Stp σ δ Hb H σ δ1 Hb1 H1) : TPost K N W σ δ1 Hb1 H1 Q res := by
  cases res with
  | ok r δ' => exact fun Hb2 H2 s2 g2 => post Hb2 H2 (s1.trans s2) g2
  | ex c fs δ' => exact fun cv dd Hb2 H2 s2 g2 r2 => post cv dd Hb2 H2 (s1.trans s2) g2 r2
/-- an exception ahead of what would follow -/
theorem EPost.exL {K : PySem.W.Frag} {W : WX} {σ : L2.St} {δ δ1 δ' : Env} {Hb H Hb1 H1 : Hp} {Q Q' : VK} {c : Str} {fs : List (Str × D)} (post : EPost K N W σ δ Hb H Q (.ex c fs δ')) (s1 : Stp σ δ Hb H σ δ1 Hb1 H1) : EPost K N W σ δ1 Hb1 H1 Q' (.ex c fs δ') :=
  fun cv dd Hb2 H2 s2 g2 r2 => post cv dd Hb2 H2 (s1.trans s2) g2 r2
theorem ej_ret {e : Expr} {v : V} {d : D} (h : PE X e (tC v)) (r : ∀ Hb, Rep X.K N Hb v d) : EJ N X e (M.ret (.dat d)) := by
  intro δ res h1 W σ Hb H Q tk g post
  cases (Option.some.inj h1)
  exact cE_of h (post v Hb H Stp.refl g (r Hb))
theorem ej_cst {c : Sc} {e : Expr} (h : PE X e (tC (match c with | .non => .non | .bl b => .bl b | .int i => .int i | .str x => .str x))) : EJ N X e (M.ret (.dat (scD c))) := by
  refine ej_ret h fun Hb => ?_
  cases c <;> constructor
theorem ej_var (o : XOk X k Ns sc N cf) {i : Nat} {x : Str} (hi : Ns[i]? = some x) (hv : visB sc x = true) (h1 : (x == ("__debug__" : Str)) = false) (h2 : (x == ("__classdict__" : Str)) = false) :
    EJ N X (.Name x pos) (evE cf (.var i)) := by
  intro δ res h W σ Hb H Q tk g post
  have hp : PE X (.Name x pos) (tVar i) := pe_var (o.ix hi) (o.vis hv) h1 h2
  unfold evE at h
  cases q : δ[i]? with
  | none => rw [q] at h; cases h
  | some b =>
    cases b with
    | none => rw [q] at h; cases h
    | some b =>
      rw [q] at h
      cases b with
      | dat d =>
        cases (Option.some.inj h)
        obtain ⟨v, a, r⟩ := g.dat i d q
        exact cE_of hp ⟨v, a, post v Hb H Stp.refl g r⟩
      | own d =>
        cases (Option.some.inj h)
        obtain ⟨p, o, a, _⟩ := g.own i d q
        exact cE_of hp ⟨_, a, post _ Hb H Stp.refl g a⟩
theorem ex_none (H : Hp) : Ex (fun _ => none) H := fun _ _ h => by cases h
theorem ej_glb (o : XOk X k Ns sc N cf) {x : Str} (hg : glB sc x = true) (h1 : (x == ("__debug__" : Str)) = false) : EJ N X (.Name x pos) (evE cf (.glb x)) := by
  intro δ res h W σ Hb H Q tk g post
  unfold evE at h
  obtain ⟨r, e0, rfl⟩ := M.opt_ok h
  obtain ⟨d, e, rfl⟩ := map_some e0
  obtain ⟨v, u, hm, rv, rd⟩ := o.tab.glb x d e
  exact cE_of (pe_glob (o.gl hg) hm rv h1) (post v Hb H Stp.refl g (rd.mono (ex_none Hb)))
theorem ej_fnv (o : XOk X k Ns sc N cf) {x : Str} (hg : glB sc x = true) (h1 : (x == ("__debug__" : Str)) = false) : EJ N X (.Name x pos) (evE cf (.fnv x)) := by
  intro δ res h W σ Hb H Q tk g post
  unfold evE at h
  obtain ⟨r, e0, rfl⟩ := M.opt_ok h
  obtain ⟨d, e, rfl⟩ := map_some e0
  obtain ⟨a, hm, hf, _⟩ := o.tab.fns x d e
  exact cE_of (pe_glob (v := .ref a) (o.gl hg) hm rfl h1) (post _ Hb H Stp.refl g (.fn hf))

/-- two operands, then an operation on what they read -/
theorem ej_two {a b e : Expr} {ma mb : M R} {op : Value → Value → Sem Value} (ha : EJ N X a ma) (hb : EJ N X b mb) (f : D → D → Option R)
    (hpe : ∀ rd, OpR X op rd → PE X e (tOp rd (cE X a) (cE X b))) (hf : ∀ d d' r, f d d' = some r → OpOk X N op d d' r) :
    EJ N X e (M.bnd ma fun x => M.bnd mb fun y => look2 x y f) := by
  intro δ res h W σ Hb H Q tk g post
  have any : ∃ rd, OpR X op rd := ⟨fun _ _ _ _ => False, fun _ _ _ _ _ _ _ _ _ _ _ _ z => z.elim⟩
  rcases M.bnd_ok h with ⟨x, δ1, e1, h⟩ | ⟨c, fs, δ1, e1, rfl⟩
  · rcases M.bnd_ok h with ⟨y, δ2, e2, h⟩ | ⟨c, fs, δ2, e2, rfl⟩
    · obtain ⟨d, d', r, v1, v2, hr, rfl⟩ := look2_ok h
      obtain ⟨rd, ho, hrd⟩ := hf d d' r hr
      refine cE_of (hpe rd ho) (ha δ _ e1 W σ Hb H _ tk g fun v Hb1 H1 s1 g1 r1 => ?_)
      refine hb δ1 _ e2 W σ Hb1 H1 _ tk g1 fun u Hb2 H2 s2 g2 r2 => ?_
      refine hrd σ δ2 Hb2 H2 v u Q g2 (g2.vw (r1.keep s2) v1) (g2.vw r2 v2) fun v' Hb3 H3 s3 g3 r3 => ?_
      exact post v' Hb3 H3 ((s1.trans s2).trans s3) g3 (r3.base (s1.trans s2).dom)
    · obtain ⟨rd, ho⟩ := any
      refine cE_of (hpe rd ho) (ha δ _ e1 W σ Hb H _ tk g fun v Hb1 H1 s1 g1 r1 => ?_)
      exact hb δ1 _ e2 W σ Hb1 H1 _ tk g1 fun cv dd Hb2 H2 s2 g2 r2 => post cv dd Hb2 H2 (s1.trans s2) g2 r2
  · obtain ⟨rd, ho⟩ := any
    exact cE_of (hpe rd ho) (ha δ _ e1 W σ Hb H _ tk g post)
theorem ej_bop {a b : Expr} {ma mb : M R} {o : BO} (ha : EJ N X a ma) (hb : EJ N X b mb) : EJ N X (.BinOp a (opB o) b pos) (M.bnd ma fun x => M.bnd mb fun y => look2 x y (binD o)) :=
  ej_two ha hb _ (fun rd ho => pe_op ho (pe_c a) (pe_c b)) fun _ _ _ h => binD_ok h
/-- one operand -/
theorem ej_one {a e : Expr} {ma : M R} (ha : EJ N X a ma) (f : D → Option R)
    (hf : ∀ d r, f d = some r → ∃ rd : V → Hp → VK → Prop, PE X e (tUn rd (cE X a)) ∧ ∀ (σ : L2.St) (δ : Env) (Hb H : Hp) (v : V) (Q : VK), Good X.K N σ δ Hb H → Vw X.K N Hb H v d →
      (∀ v' Hb' H', Stp σ δ Hb H σ δ Hb' H' → Good X.K N σ δ Hb' H' → RR X.K N σ δ Hb' H H' v' r → Q v' H') → rd v H Q)
    (hx : PE X e (tUn (fun _ _ _ => False) (cE X a))) : EJ N X e (M.bnd ma fun x => look x f) := by
  intro δ res h W σ Hb H Q tk g post
  rcases M.bnd_ok h with ⟨x, δ1, e1, h⟩ | ⟨c, fs, δ1, e1, rfl⟩
  · obtain ⟨d, r, v1, hr, rfl⟩ := look_ok h
    obtain ⟨rd, hpe, hrd⟩ := hf d r hr
    refine cE_of hpe (ha δ _ e1 W σ Hb H _ tk g fun v Hb1 H1 s1 g1 r1 => ?_)
    refine hrd σ δ1 Hb1 H1 v Q g1 (g1.vw r1 v1) fun v' Hb3 H3 s3 g3 r3 => ?_
    exact post v' Hb3 H3 (s1.trans s3) g3 (r3.base s1.dom)
  · exact cE_of hx (ha δ _ e1 W σ Hb H _ tk g post)
theorem ej_neg {a : Expr} {ma : M R} (ha : EJ N X a ma) : EJ N X (.UnaryOp .USub a pos) (M.bnd ma fun x => look x negD) := by
  refine ej_one ha negD (fun d r h => ⟨_, pe_un un_neg (pe_c a), fun σ δ Hb H v Q g hv q => ?_⟩) (pe_un (fun _ _ _ _ _ _ _ _ _ z => z.elim) (pe_c a))
  unfold negD at h
  split at h
  · cases h
    cases hv.int
    exact ⟨_, rfl, fin_dat g (.int _) q⟩
  · cases h

/-! ### tests -/
theorem tj_val {e : Expr} {m : M R} (h : EJ N X e m) (he : ∀ whole, isTrue e X.env whole = (do let v ← whole; standAt e.pos; holding [v] (truthy v))) : TJ N X e (tst m) := by
  intro δ res h1 W σ Hb H Q tk g post
  rcases M.bnd_ok h1 with ⟨x, δ1, e1, h2⟩ | ⟨c, fs, δ1, e1, rfl⟩
  · obtain ⟨d, b, v1, hb, rfl⟩ := look_ok h2
    unfold boolOf at hb
    split at hb
    · rename_i b'
      cases hb
      refine cT_of (pt_val (pe_c e) he) (h δ _ e1 W σ Hb H _ tk g fun v Hb1 H1 s1 g1 r1 => ?_)
      exact ⟨b, (g1.vw r1 v1).bl, post Hb1 H1 s1 g1⟩
    · cases hb
  · exact cT_of (pt_val (pe_c e) he) (h δ _ e1 W σ Hb H _ tk g post)
theorem tst_dat {m : M R} {x : M Bool} (h : ∀ δ, m δ = M.bnd x (fun b => M.ret (.dat (.bl b))) δ) : ∀ δ, tst m δ = x δ := fun δ => by
  unfold tst M.bnd
  rw [h]
  unfold M.bnd
  cases x δ with
  | none => rfl
  | some r => cases r <;> rfl
theorem TJ.congr {e : Expr} {m m' : M Bool} (h : TJ N X e m) (he : ∀ δ, m' δ = m δ) : TJ N X e m' := fun δ res h1 => h δ res (by rw [← he]; exact h1)
theorem EJ.congr {e : Expr} {m m' : M R} (h : EJ N X e m) (he : ∀ δ, m' δ = m δ) : EJ N X e m' := fun δ res h1 => h δ res (by rw [← he]; exact h1)
theorem tj_not {a : Expr} {m : M Bool} (h : TJ N X a m) : TJ N X (.UnaryOp .Not a pos) (M.bnd m fun b => M.ret (!b)) := by
  intro δ res h1 W σ Hb H Q tk g post
  rcases M.bnd_ok h1 with ⟨x, δ1, e1, h2⟩ | ⟨c, fs, δ1, e1, rfl⟩
  · cases (Option.some.inj h2)
    exact cT_of (pt_not (pt_c a)) (h δ _ e1 W σ Hb H _ tk g post)
  · exact cT_of (pt_not (pt_c a)) (h δ _ e1 W σ Hb H _ tk g post)
/-- as a value -/
theorem ej_not {a : Expr} {m : M R} (h : EJ N X a m) : EJ N X (.UnaryOp .Not a pos) (M.bnd (tst m) fun b => M.ret (.dat (.bl (!b)))) := by
  intro δ res h1 W σ Hb H Q tk g post
  rcases M.bnd_ok h1 with ⟨x, δ1, e1, h2⟩ | ⟨c, fs, δ1, e1, rfl⟩
  · cases (Option.some.inj h2)
    rcases M.bnd_ok e1 with ⟨y, δ2, e3, h3⟩ | ⟨c, fs, δ2, e3, h3⟩
    · obtain ⟨d, b, v1, hb, h4⟩ := look_ok h3
      cases h4
      unfold boolOf at hb
      split at hb
      · cases hb
        refine cE_of (pe_not (pe_c a)) (h δ _ e3 W σ Hb H _ tk g fun v Hb1 H1 s1 g1 r1 => ?_)
        exact ⟨_, (g1.vw r1 v1).bl, post _ Hb1 H1 s1 g1 (.bl _)⟩
      · cases hb
    · cases h3
  · rcases M.bnd_ok e1 with ⟨y, δ2, e3, h3⟩ | ⟨c', fs', δ2, e3, h3⟩
    · obtain ⟨d, b, v1, hb, h4⟩ := look_ok h3
      cases h4
    · cases h3
      exact cE_of (pe_not (pe_c a)) (h δ _ e3 W σ Hb H _ tk g post)
theorem tst_cases {m : M R} {δ : Env} {res : Res Bool} (h : tst m δ = some res) : (∃ r b δ', m δ = some (.ok r δ') ∧ vw δ' r = some (.bl b) ∧ res = .ok b δ') ∨ (∃ c fs δ', m δ = some (.ex c fs δ') ∧ res = .ex c fs δ') := by
  rcases M.bnd_ok h with ⟨y, δ2, e3, h3⟩ | ⟨c, fs, δ2, e3, h3⟩
  · obtain ⟨d, b, v1, hb, h4⟩ := look_ok h3
    unfold boolOf at hb
    split at hb
    · cases hb
      exact .inl ⟨y, b, δ2, e3, v1, h4⟩
    · cases hb
  · exact .inr ⟨c, fs, δ2, e3, h3⟩
theorem tsv_cases {m : M R} {δ : Env} {res : Res R} (h : tsv m δ = some res) : (∃ r b δ', m δ = some (.ok r δ') ∧ vw δ' r = some (.bl b) ∧ res = .ok (.dat (.bl b)) δ') ∨ (∃ c fs δ', m δ = some (.ex c fs δ') ∧ res = .ex c fs δ') := by
  rcases M.bnd_ok h with ⟨y, δ2, e3, h3⟩ | ⟨c, fs, δ2, e3, h3⟩
  · obtain ⟨d, b, v1, hb, h4⟩ := look_ok h3
    obtain ⟨b', hb, rfl⟩ := map_some hb
    unfold boolOf at hb
    split at hb
    · cases hb
      exact .inl ⟨y, b', δ2, e3, v1, h4⟩
    · cases hb
  · exact .inr ⟨c, fs, δ2, e3, h3⟩
theorem EJ.bool {e : Expr} {m : M R} (h : EJ N X e m) {δ : Env} {res : Res Bool} (h1 : tst m δ = some res) {W : WX} {σ : L2.St} {Hb H : Hp} {Q : Bool → Hp → Prop} (tk : Takes X W) (g : Good X.K N σ δ Hb H) (post : TPost X.K N W σ δ Hb H Q res) :
    cE X e σ H fun x H1 => ∃ c, x = .bl c ∧ Q c H1 := by
  rcases tst_cases h1 with ⟨r, b, δ', e1, v, rfl⟩ | ⟨c, fs, δ', e1, rfl⟩
  · exact h δ _ e1 W σ Hb H _ tk g fun v' Hb1 H1 s1 g1 r1 => ⟨b, (g1.vw r1 v).bl, post Hb1 H1 s1 g1⟩
  · exact h δ _ e1 W σ Hb H _ tk g post
/-- a and (..), as a value -/
theorem ej_and {a b : Expr} {rest : List Expr} {ma mb : M R} (ha : EJ N X a ma) (hb : EJ N X (.BoolOp .And (b :: rest) pos) mb) : EJ N X (.BoolOp .And (a :: b :: rest) pos) (M.bnd (tst ma) fun c => if c then tsv mb else M.ret (.dat (.bl false))) := by
  intro δ res h W σ Hb H Q tk g post
  rcases M.bnd_ok h with ⟨x, δ1, e1, h2⟩ | ⟨c, fs, δ1, e1, rfl⟩
  · refine cE_of (pe_and (pe_c a) (pe_c _)) (ha.bool e1 tk g fun Hb1 H1 s1 g1 => ?_)
    cases x with
    | false =>
      cases (Option.some.inj h2)
      exact post _ Hb1 H1 s1 g1 (.bl _)
    | true =>
      have h2 : tsv mb δ1 = some res := h2
      show cE X _ σ H1 Q
      rcases tsv_cases h2 with ⟨r, b', δ', e2, v, rfl⟩ | ⟨c, fs, δ', e2, rfl⟩
      · refine hb δ1 _ e2 W σ Hb1 H1 _ tk g1 fun v' Hb2 H2 s2 g2 r2 => ?_
        have ev := (g2.vw r2 v).bl
        subst ev
        exact post _ Hb2 H2 (s1.trans s2) g2 (.bl _)
      · exact hb δ1 _ e2 W σ Hb1 H1 _ tk g1 fun cv dd Hb2 H2 s2 g2 r2 => post cv dd Hb2 H2 (s1.trans s2) g2 r2
  · exact cE_of (pe_and (pe_c a) (pe_c _)) (ha.bool e1 tk g post)
theorem ej_or {a b : Expr} {rest : List Expr} {ma mb : M R} (ha : EJ N X a ma) (hb : EJ N X (.BoolOp .Or (b :: rest) pos) mb) : EJ N X (.BoolOp .Or (a :: b :: rest) pos) (M.bnd (tst ma) fun c => if c then M.ret (.dat (.bl true)) else tsv mb) := by
  intro δ res h W σ Hb H Q tk g post
  rcases M.bnd_ok h with ⟨x, δ1, e1, h2⟩ | ⟨c, fs, δ1, e1, rfl⟩
  · refine cE_of (pe_or (pe_c a) (pe_c _)) (ha.bool e1 tk g fun Hb1 H1 s1 g1 => ?_)
    cases x with
    | true =>
      cases (Option.some.inj h2)
      exact post _ Hb1 H1 s1 g1 (.bl _)
    | false =>
      have h2 : tsv mb δ1 = some res := h2
      show cE X _ σ H1 Q
      rcases tsv_cases h2 with ⟨r, b', δ', e2, v, rfl⟩ | ⟨c, fs, δ', e2, rfl⟩
      · refine hb δ1 _ e2 W σ Hb1 H1 _ tk g1 fun v' Hb2 H2 s2 g2 r2 => ?_
        have ev := (g2.vw r2 v).bl
        subst ev
        exact post _ Hb2 H2 (s1.trans s2) g2 (.bl _)
      · exact hb δ1 _ e2 W σ Hb1 H1 _ tk g1 fun cv dd Hb2 H2 s2 g2 r2 => post cv dd Hb2 H2 (s1.trans s2) g2 r2
  · exact cE_of (pe_or (pe_c a) (pe_c _)) (ha.bool e1 tk g post)
theorem ej_bo1 {a : Expr} {m : M R} {op : BoolOp} (h : EJ N X a m) : EJ N X (.BoolOp op [a] pos) m := fun δ res h1 W σ Hb H Q tk g post => cE_of (pe_one (pe_c a)) (h δ res h1 W σ Hb H Q tk g post)
/-- the same as tests; the last one is any test -/
def WJ (N : Nm) (X : Cx) (e : Expr) (m : M Bool) : Prop :=
  ∀ δ res, m δ = some res → ∀ (W : WX) σ Hb H Q, Takes X W → Good X.K N σ δ Hb H → TPost X.K N W σ δ Hb H Q res → ∃ t, PW X e t ∧ t σ H Q
theorem WJ.tj {e : Expr} {m : M Bool} (h : WJ N X e m) : TJ N X e m := fun δ res h1 W σ Hb H Q tk g post => let ⟨_, a, b⟩ := h δ res h1 W σ Hb H Q tk g post; cT_of a.pt b
def cW (X : Cx) (e : Expr) : TT := fun σ H Q => ∀ (whole : Sem Value) pins s, Inv X pins σ H s → wpAny (model X.prog X.w) X.A (isTrue e X.env whole) (TP X pins σ Q) X.xe s
theorem pw_c (e : Expr) : PW X e (cW X e) := ⟨fun wh pins s σ H Q I h => h wh pins s I⟩
theorem wj_one {a : Expr} {m : M Bool} (o : BoolOp) (h : TJ N X a m) : WJ N X (.BoolOp o [a] pos) m := fun δ res h1 W σ Hb H Q tk g post => by
  cases o with
  | And => exact ⟨_, pw_and1 (pt_c a), h δ res h1 W σ Hb H Q tk g post⟩
  | Or => exact ⟨_, pw_or1 (pt_c a), h δ res h1 W σ Hb H Q tk g post⟩
theorem cW_of {e : Expr} {σ : L2.St} {H : Hp} {Q : Bool → Hp → Prop} (h : ∃ t, PW X e t ∧ t σ H Q) : cW X e σ H Q := fun wh pins s I => let ⟨_, a, b⟩ := h; a.run wh pins s σ H Q I b
theorem wj_and {a b : Expr} {rest : List Expr} {ma mb : M Bool} (ha : TJ N X a ma) (hb : WJ N X (.BoolOp .And (b :: rest) pos) mb) : WJ N X (.BoolOp .And (a :: b :: rest) pos) (M.bnd ma fun c => if c then mb else M.ret false) := by
  intro δ res h W σ Hb H Q tk g post
  refine ⟨_, pw_and (pt_c a) (pw_c _), ?_⟩
  rcases M.bnd_ok h with ⟨x, δ1, e1, h2⟩ | ⟨c, fs, δ1, e1, rfl⟩
  · refine ha δ _ e1 W σ Hb H _ tk g fun Hb1 H1 s1 g1 => ?_
    cases x with
    | false =>
      cases (Option.some.inj h2)
      exact post Hb1 H1 s1 g1
    | true =>
      refine cW_of (hb δ1 res h2 W σ Hb1 H1 Q tk g1 ?_)
      cases res with
      | ok r δ' => exact fun Hb2 H2 s2 g2 => post Hb2 H2 (s1.trans s2) g2
      | ex c fs δ' => exact fun cv dd Hb2 H2 s2 g2 r2 => post cv dd Hb2 H2 (s1.trans s2) g2 r2
  · exact ha δ _ e1 W σ Hb H _ tk g post
theorem wj_or {a b : Expr} {rest : List Expr} {ma mb : M Bool} (ha : TJ N X a ma) (hb : WJ N X (.BoolOp .Or (b :: rest) pos) mb) : WJ N X (.BoolOp .Or (a :: b :: rest) pos) (M.bnd ma fun c => if c then M.ret true else mb) := by
  intro δ res h W σ Hb H Q tk g post
  refine ⟨_, pw_or (pt_c a) (pw_c _), ?_⟩
  rcases M.bnd_ok h with ⟨x, δ1, e1, h2⟩ | ⟨c, fs, δ1, e1, rfl⟩
  · refine ha δ _ e1 W σ Hb H _ tk g fun Hb1 H1 s1 g1 => ?_
    cases x with
    | true =>
      cases (Option.some.inj h2)
      exact post Hb1 H1 s1 g1
    | false =>
      refine cW_of (hb δ1 res h2 W σ Hb1 H1 Q tk g1 ?_)
      cases res with
      | ok r δ' => exact fun Hb2 H2 s2 g2 => post Hb2 H2 (s1.trans s2) g2
      | ex c fs δ' => exact fun cv dd Hb2 H2 s2 g2 r2 => post cv dd Hb2 H2 (s1.trans s2) g2 r2
  · exact ha δ _ e1 W σ Hb H _ tk g post
/-- a if c else b -/
theorem ej_ife {c a b : Expr} {mc : M Bool} {ma mb : M R} (hc : TJ N X c mc) (ha : EJ N X a ma) (hb : EJ N X b mb) : EJ N X (.IfExp c a b pos) (M.bnd mc fun k => if k then ma else mb) := by
  intro δ res h W σ Hb H Q tk g post
  have lift : ∀ {δ1 : Env} {Hb1 H1 : Hp}, Stp σ δ Hb H σ δ1 Hb1 H1 → EPost X.K N W σ δ1 Hb1 H1 Q res := fun {δ1 Hb1 H1} s1 => by
    cases res with
    | ok r δ' => exact fun v Hb2 H2 s2 g2 r2 => post v Hb2 H2 (s1.trans s2) g2 (r2.base s1.dom)
    | ex c fs δ' => exact fun cv dd Hb2 H2 s2 g2 r2 => post cv dd Hb2 H2 (s1.trans s2) g2 r2
  rcases M.bnd_ok h with ⟨x, δ1, e1, h2⟩ | ⟨c', fs, δ1, e1, rfl⟩
  · refine cE_of (pe_ifExp (pt_c c) (pe_c a) (pe_c b)) (hc δ _ e1 W σ Hb H _ tk g fun Hb1 H1 s1 g1 => ?_)
    cases x with
    | true => exact ha δ1 res h2 W σ Hb1 H1 Q tk g1 (lift s1)
    | false => exact hb δ1 res h2 W σ Hb1 H1 Q tk g1 (lift s1)
  · exact cE_of (pe_ifExp (pt_c c) (pe_c a) (pe_c b)) (hc δ _ e1 W σ Hb H _ tk g post)

/-! ### arguments -/
theorem APost.ex_iff {K : PySem.W.Frag} {W : WX} {σ : L2.St} {δ δ' : Env} {Hb H : Hp} {Q : VK} {Q' : List V → Hp → Prop} {c : Str} {fs : List (Str × D)} (post : EPost K N W σ δ Hb H Q (.ex c fs δ')) : APost K N W σ δ Hb H Q' (.ex c fs δ') := post
theorem aj_nil : AJ N X [] (M.ret []) := by
  intro δ res h W σ Hb H Q tk g post
  cases (Option.some.inj h)
  exact cA_of pa_nil (post [] Hb H Stp.refl g ⟨.nil, .nil⟩)
theorem aj_cons {e : Expr} {es : List Expr} {m : M R} {ms : M (List R)} (hs : noStar e = true) (he : EJ N X e m) (hr : AJ N X es ms) : AJ N X (e :: es) (M.bnd m fun r => M.bnd ms fun rs => M.ret (r :: rs)) := by
  intro δ res h W σ Hb H Q tk g post
  have hp : PA X (e :: es) (tCons (cE X e) (cA X es)) := pa_cons (pe_c e) (pa_c es) (star_ok hs)
  rcases M.bnd_ok h with ⟨r, δ1, e1, h2⟩ | ⟨c, fs, δ1, e1, rfl⟩
  · refine cA_of hp (he δ _ e1 W σ Hb H _ tk g fun v Hb1 H1 s1 g1 r1 => ?_)
    rcases M.bnd_ok h2 with ⟨rs, δ2, e2, h3⟩ | ⟨c, fs, δ2, e2, rfl⟩
    · cases (Option.some.inj h3)
      refine hr δ1 _ e2 W σ Hb1 H1 _ tk g1 fun vs Hb2 H2 s2 g2 r2 => ?_
      have k := r1.keep s2
      refine post (v :: vs) Hb2 H2 (s1.trans s2) g2 ⟨.cons k (r2.1.base s1.dom), ?_⟩
      cases r with
      | dat d => exact r2.2
      | bor i => exact r2.2
      | own d =>
        refine List.nodup_cons.mpr ⟨fun z => ?_, r2.2⟩
        obtain ⟨q1, q2, q3, q4⟩ := r2.1.fresh _ z
        obtain ⟨p, o, rfl, _, _, f, _⟩ := r1
        have : H1 p = none := q1
        rw [f] at this
        cases this
    · exact hr δ1 _ e2 W σ Hb1 H1 _ tk g1 fun cv dd Hb2 H2 s2 g2 r2 => post cv dd Hb2 H2 (s1.trans s2) g2 r2
  · exact cA_of hp (he δ _ e1 W σ Hb H _ tk g post)
theorem RepL.sz {H : Hp} {K : PySem.W.Frag} {vs : List V} {ds : List D} (h : RepL K N H vs ds) (hz : szOk ds.length = true) : vs.length ≤ sizeLine := by
  rw [RepL.length h]; exact szOk_le hz
theorem ej_tup {es : List Expr} {ms : M (List R)} {x1 : Nat} (ha : AJ N X es ms) : EJ N X (.Tuple es x1 pos) (M.bnd ms fun rs => M.bnd (gives rs) fun ds => if szOk ds.length then M.ret (.dat (.tup ds)) else M.stuck) := by
  intro δ res h W σ Hb H Q tk g post
  rcases M.bnd_ok h with ⟨rs, δ1, e1, h2⟩ | ⟨c, fs, δ1, e1, rfl⟩
  · rcases M.bnd_ok h2 with ⟨ds, δ2, e2, h3⟩ | ⟨c, fs, δ2, e2, rfl⟩
    · split at h3
      · rename_i hz
        cases (Option.some.inj h3)
        refine cE_of (pe_tup (pa_c es)) (ha δ _ e1 W σ Hb H _ tk g fun vs Hb1 H1 s1 g1 r1 => ?_)
        obtain ⟨ds', δ', Hb2, q2, s2, g2, r2, _⟩ := g1.gives s1 r1 e2
        cases q2
        refine ⟨r2.sz hz, fun p hp => ?_⟩
        exact fin_new g2 hp (.tup upd_same (r2.mono (Ex.new (hb_none g2 hp)))) fun v' Hb3 H3 s3 g3 r3 => post v' Hb3 H3 (s2.trans s3) g3 (r3.base s2.dom)
      · cases h3
    · refine cE_of (pe_tup (pa_c es)) (ha δ _ e1 W σ Hb H _ tk g fun vs Hb1 H1 s1 g1 r1 => ?_)
      obtain ⟨_, _, _, q2, _⟩ := g1.gives s1 r1 e2
      cases q2
  · exact cE_of (pe_tup (pa_c es)) (ha δ _ e1 W σ Hb H _ tk g post)
theorem ej_lst {es : List Expr} {ms : M (List R)} (ha : AJ N X es ms) : EJ N X (.List es pos) (M.bnd ms fun rs => M.bnd (gives rs) fun ds => if szOk ds.length then M.ret (.own (.lst ds)) else M.stuck) := by
  intro δ res h W σ Hb H Q tk g post
  rcases M.bnd_ok h with ⟨rs, δ1, e1, h2⟩ | ⟨c, fs, δ1, e1, rfl⟩
  · rcases M.bnd_ok h2 with ⟨ds, δ2, e2, h3⟩ | ⟨c, fs, δ2, e2, rfl⟩
    · split at h3
      · rename_i hz
        cases (Option.some.inj h3)
        refine cE_of (pe_lst (pa_c es)) (ha δ _ e1 W σ Hb H _ tk g fun vs Hb1 H1 s1 g1 r1 => ?_)
        obtain ⟨ds', δ', Hb2, q2, s2, g2, r2, _⟩ := g1.gives s1 r1 e2
        cases q2
        refine ⟨r2.sz hz, fun p hp => ?_⟩
        exact fin_own g2 hp (.lst r2) fun v' Hb3 H3 s3 g3 r3 => post v' Hb3 H3 (s2.trans s3) g3 (r3.base s2.dom)
      · cases h3
    · refine cE_of (pe_lst (pa_c es)) (ha δ _ e1 W σ Hb H _ tk g fun vs Hb1 H1 s1 g1 r1 => ?_)
      obtain ⟨_, _, _, q2, _⟩ := g1.gives s1 r1 e2
      cases q2
  · exact cE_of (pe_lst (pa_c es)) (ha δ _ e1 W σ Hb H _ tk g post)

/-! ### built-in calls -/
theorem ej_blt (o : XOk X k Ns sc N cf) {b : Bl} {e : Expr} {es : List Expr} {ms : M (List R)} {p : Pos} (hg : glB sc (blN b) = true) (hs : (e :: es).all noStar = true) (ha : AJ N X (e :: es) ms) :
    EJ N X (.Call (.Name (blN b) p) (e :: es) [] pos) (M.bnd ms fun rs => looks rs (bltD b)) := by
  intro δ res h W σ Hb H Q tk g post
  have hm : X.mg (blN b) = none := o.tab.blt _ (by cases b <;> decide)
  have hs' := List.all_cons ▸ hs
  have hs1 : noStar e = true := (Bool.and_eq_true_iff.mp hs').1
  have hs2 : es.all noStar = true := (Bool.and_eq_true_iff.mp hs').2
  have hp : ∀ rd, CallR X (blF b) rd → PE X (.Call (.Name (blN b) p) (e :: es) [] pos) (tCB rd (cA X (e :: es))) := fun rd hc => by
    cases b with
    | len => exact pe_callB hc (o.gl hg) hm PySem.boot_len (pa_c _) (by decide) (by decide) (star_ok hs1) (star_plain hs2)
    | abs => exact pe_callB hc (o.gl hg) hm PyProof.Rows.boot_abs (pa_c _) (by decide) (by decide) (star_ok hs1) (star_plain hs2)
    | max => exact pe_callB hc (o.gl hg) hm PyProof.Rows.boot_max (pa_c _) (by decide) (by decide) (star_ok hs1) (star_plain hs2)
    | sum => exact pe_callB hc (o.gl hg) hm PyProof.Rows.boot_sum (pa_c _) (by decide) (by decide) (star_ok hs1) (star_plain hs2)
    | all => exact pe_callB hc (o.gl hg) hm PyProof.Rows.boot_all (pa_c _) (by decide) (by decide) (star_ok hs1) (star_plain hs2)
    | any => exact pe_callB hc (o.gl hg) hm PyProof.Rows.boot_any (pa_c _) (by decide) (by decide) (star_ok hs1) (star_plain hs2)
    | list => exact pe_callTy hc (o.gl hg) hm PyProof.Rows.boot_list (pa_c _) (by decide) (by decide) (star_ok hs1) (star_plain hs2)
    | tuple => exact pe_callTy hc (o.gl hg) hm PyProof.Rows.boot_tuple (pa_c _) (by decide) (by decide) (star_ok hs1) (star_plain hs2)
    | dict => exact pe_callTy hc (o.gl hg) hm PyProof.Rows.boot_dict (pa_c _) (by decide) (by decide) (star_ok hs1) (star_plain hs2)
    | int => exact pe_callTy hc (o.gl hg) hm PyProof.Rows.boot_int (pa_c _) (by decide) (by decide) (star_ok hs1) (star_plain hs2)
    | str => exact pe_callTy hc (o.gl hg) hm PyProof.Rows.boot_str (pa_c _) (by decide) (by decide) (star_ok hs1) (star_plain hs2)
  rcases M.bnd_ok h with ⟨rs, δ1, e1, h2⟩ | ⟨c, fs, δ1, e1, rfl⟩
  · obtain ⟨ds, r, v1, hr, rfl⟩ := looks_ok h2
    obtain ⟨rd, hc, hrd⟩ := bltD_ok (N := N) o.calm hr
    refine cE_of (hp rd hc) (ha δ _ e1 W σ Hb H _ tk g fun vs Hb1 H1 s1 g1 r1 => ?_)
    exact hrd σ δ1 Hb1 H1 vs Q g1 (g1.vws r1.1 v1) fun v' Hb3 H3 s3 g3 r3 => post v' Hb3 H3 (s1.trans s3) g3 (r3.base s1.dom)
  · exact cE_of (hp (fun _ _ _ => False) fun _ _ _ _ _ _ _ _ _ z => z.elim) (ha δ _ e1 W σ Hb H _ tk g post)
end
end Rl

set_option Elab.async false
set_option linter.all false
set_option maxRecDepth 100000
set_option maxHeartbeats 4000000
/-! Lay H: subscripts, attributes, comparisons. -/
namespace Rl
open PySem L2
section
variable {X : Cx} {k : Nat} {Ns : List Str} {sc : Scope} {N : Nm} {cf : Cfg} {pos : Pos}
/-- two operands, the rule chosen by what they read -/
theorem two_g {a b : Expr} {ma mb : M R} {P : TE → Prop} (ha : EJ N X a ma) (hb : EJ N X b mb) (f : R → R → M R)
    (hf : ∀ x y δ res, f x y δ = some res → ∃ rd : R2, P (tOp rd (cE X a) (cE X b)) ∧ ∀ (W : WX) (σ : L2.St) (Hb H : Hp) (v u : V) (Q : VK) (Hx Hy : Hp), Takes X W → Good X.K N σ δ Hb H → RR X.K N σ δ Hb Hx H v x → RR X.K N σ δ Hb Hy H u y → (∀ c fs δ', res ≠ .ex c fs δ') →
      EPost X.K N W σ δ Hb H Q res → rd v u H Q)
    (hn : ∀ x y δ c fs δ', f x y δ ≠ some (.ex c fs δ'))
    (hx : ∃ rd : R2, P (tOp rd (cE X a) (cE X b))) {δ : Env} {res : Res R} (h : M.bnd ma (fun x => M.bnd mb fun y => f x y) δ = some res) {W : WX} {σ : L2.St} {Hb H : Hp} {Q : VK} (tk : Takes X W) (g : Good X.K N σ δ Hb H) (post : EPost X.K N W σ δ Hb H Q res) :
    ∃ t, P t ∧ t σ H Q := by
  rcases M.bnd_ok h with ⟨x, δ1, e1, h⟩ | ⟨c, fs, δ1, e1, rfl⟩
  · rcases M.bnd_ok h with ⟨y, δ2, e2, h⟩ | ⟨c, fs, δ2, e2, rfl⟩
    · obtain ⟨rd, hpe, hrd⟩ := hf x y δ2 res h
      refine ⟨_, hpe, (ha δ _ e1 W σ Hb H _ tk g fun v Hb1 H1 s1 g1 r1 => ?_)⟩
      refine hb δ1 _ e2 W σ Hb1 H1 _ tk g1 fun u Hb2 H2 s2 g2 r2 => ?_
      refine hrd W σ Hb2 H2 v u Q H H1 tk g2 (r1.keep s2) r2 (fun c fs δ' z => hn x y δ2 c fs δ' (by rw [h, z])) (post.lift (s1.trans s2))
    · obtain ⟨rd, hpe⟩ := hx
      refine ⟨_, hpe, (ha δ _ e1 W σ Hb H _ tk g fun v Hb1 H1 s1 g1 r1 => ?_)⟩
      exact hb δ1 _ e2 W σ Hb1 H1 _ tk g1 (post.exL s1)
  · obtain ⟨rd, hpe⟩ := hx
    exact ⟨_, hpe, ha δ _ e1 W σ Hb H _ tk g post⟩
theorem ej_two' {a b e : Expr} {ma mb : M R} (ha : EJ N X a ma) (hb : EJ N X b mb) (f : R → R → M R)
    (hf : ∀ x y δ res, f x y δ = some res → ∃ rd : R2, PE X e (tOp rd (cE X a) (cE X b)) ∧ ∀ (W : WX) (σ : L2.St) (Hb H : Hp) (v u : V) (Q : VK) (Hx Hy : Hp), Takes X W → Good X.K N σ δ Hb H → RR X.K N σ δ Hb Hx H v x → RR X.K N σ δ Hb Hy H u y → (∀ c fs δ', res ≠ .ex c fs δ') →
      EPost X.K N W σ δ Hb H Q res → rd v u H Q)
    (hn : ∀ x y δ c fs δ', f x y δ ≠ some (.ex c fs δ'))
    (hx : ∃ rd : R2, PE X e (tOp rd (cE X a) (cE X b))) :
    EJ N X e (M.bnd ma fun x => M.bnd mb fun y => f x y) := fun δ res h W σ Hb H Q tk g post =>
  let ⟨_, a, b⟩ := two_g (P := PE X e) ha hb f hf hn hx h tk g post; cE_of a b
def noSlice : Expr → Bool
  | .Slice _ _ _ _ => false
  | _ => true
theorem plainIx_of {b : Expr} (h : noSlice b = true) : PlainIx b := fun o i => by
  cases b <;> first | rfl | cases h
theorem look2_noex {α : Type} {r s : R} {f : D → D → Option α} {δ : Env} {c : Str} {fs : List (Str × D)} {δ' : Env} : look2 r s f δ ≠ some (.ex c fs δ') := fun h => by
  obtain ⟨_, _, _, _, _, _, e⟩ := look2_ok h
  cases e
theorem RepL.at {K : PySem.W.Frag} {Hb : Hp} {vs : List V} {ds : List D} {i : Int} {d : D} (h : RepL K N Hb vs ds) (e : atI ds i = some d) : ∃ v, atI vs i = some v ∧ Rep K N Hb v d := by
  unfold atI at e ⊢
  rw [RepL.length h]
  cases q : ixN ds.length i with
  | none => rw [q] at e; cases e
  | some j =>
    rw [q] at e
    exact h.get e
theorem ej_idx (o : XOk X k Ns sc N cf) {a i : Expr} {ma mi : M R} (hs : noSlice i = true) (ha : EJ N X a ma) (hi : EJ N X i mi) :
    EJ N X (.Subscript a i pos) (M.bnd ma fun x => M.bnd mi fun y => look2 x y fun d e => (idxD d e).map .dat) := by
  refine ej_two' ha hi _ (fun x y δ res h => ?_) (fun _ _ _ _ _ _ => look2_noex) ⟨_, pe_ix (r := fun _ _ _ _ => False) (fun _ _ _ _ _ _ _ _ _ _ _ _ _ _ z => z.elim) (pe_c a) (pe_c i) (plainIx_of hs)⟩
  obtain ⟨d, e, r, v1, v2, hr, rfl⟩ := look2_ok h
  obtain ⟨d', hd, rfl⟩ := map_some hr
  unfold idxD at hd
  split at hd
  · refine ⟨_, pe_ix ix_list (pe_c a) (pe_c i) (plainIx_of hs), fun W σ Hb H v u Q Hx Hy tk g rx ry _ post => ?_⟩
    obtain ⟨p, xs, rfl, hp, rp⟩ := (g.vw rx v1).lst g.ex
    cases (g.vw ry v2).int
    obtain ⟨w, hw, rw'⟩ := rp.at hd
    exact ⟨p, xs, _, w, rfl, rfl, .of hp, hw, post w Hb H Stp.refl g rw'⟩
  · refine ⟨_, pe_ix ix_list (pe_c a) (pe_c i) (plainIx_of hs), fun W σ Hb H v u Q Hx Hy tk g rx ry _ post => ?_⟩
    obtain ⟨p, xs, rfl, hp, rp⟩ := (g.vw rx v1).scr g.ex
    cases (g.vw ry v2).int
    obtain ⟨w, hw, rw'⟩ := rp.at hd
    exact ⟨p, xs, _, w, rfl, rfl, hp, hw, post w Hb H Stp.refl g rw'⟩
  · refine ⟨_, pe_ix ix_tup (pe_c a) (pe_c i) (plainIx_of hs), fun W σ Hb H v u Q Hx Hy tk g rx ry _ post => ?_⟩
    obtain ⟨p, xs, rfl, hp, rp⟩ := (g.vw rx v1).tup g.ex
    cases (g.vw ry v2).int
    obtain ⟨w, hw, rw'⟩ := rp.at hd
    exact ⟨p, xs, _, w, rfl, rfl, .of hp, hw, post w Hb H Stp.refl g rw'⟩
  · split at hd
    · rename_i hz
      obtain ⟨c, hc, rfl⟩ := map_some hd
      refine ⟨_, pe_ix ix_str (pe_c a) (pe_c i) (plainIx_of hs), fun W σ Hb H v u Q Hx Hy tk g rx ry _ post => ?_⟩
      cases (g.vw rx v1).str
      cases (g.vw ry v2).int
      exact ⟨_, _, c, rfl, rfl, szOk_le hz, hc, post _ Hb H Stp.refl g (.str _)⟩
    · cases hd
  · split at hd
    · rename_i key hk
      refine ⟨fun x y H Q => ∃ a v, x = .ref a ∧ DGet H a y (some v) ∧ Q v H, pe_dget o.hu (pe_c a) (pe_c i) (plainIx_of hs), fun W σ Hb H v u Q Hx Hy tk g rx ry _ post => ?_⟩
      obtain ⟨p, xs, rfl, hp, rp⟩ := (g.vw rx v1).dct g.ex
      cases keyD_v (g.vw ry v2) hk
      obtain ⟨w, hw, rw'⟩ := rp.some hd
      exact ⟨p, w, rfl, by have := DGet.k (k := key) hp; rw [hw] at this; exact this, post w Hb H Stp.refl g rw'⟩
    · cases hd
  · split at hd
    · rename_i key hk
      refine ⟨fun x y H Q => ∃ a v, x = .ref a ∧ DGet H a y (some v) ∧ Q v H, pe_dget o.hu (pe_c a) (pe_c i) (plainIx_of hs), fun W σ Hb H v u Q Hx Hy tk g rx ry _ post => ?_⟩
      obtain ⟨p, xs, rfl, hp, rp⟩ := (g.vw rx v1).dtt g.ex
      obtain ⟨q, ys, rfl, hq, rq⟩ := (g.vw ry v2).tup g.ex
      cases keysD_v rq hk
      obtain ⟨w, hw, rw'⟩ := rp.some hd
      exact ⟨p, w, rfl, by have := DGet.t (k := key) hp hq; rw [hw] at this; exact this, post w Hb H Stp.refl g rw'⟩
    · cases hd
  · cases hd

/-! ### slices -/
/-- a part of a slice -/
def cO (X : Cx) (e : Option Expr) : TO := fun σ H Q => ∀ pins s, Inv X pins σ H s → wpAny (model X.prog X.w) X.A (evalPart e X.env) (fun u s' => ∃ o H', Inv X pins σ H' s' ∧ IsPart u o ∧ Q o H') X.xe s
theorem po_c (e : Option Expr) : PO X e (cO X e) := ⟨fun pins s σ H Q I h => h pins s I⟩
theorem cO_of {e : Option Expr} {t : TO} (h : PO X e t) {σ : L2.St} {H : Hp} {Q : Option Int → Hp → Prop} (q : t σ H Q) : cO X e σ H Q := fun pins s I => h.run pins s σ H Q I q
def OPost (K : PySem.W.Frag) (N : Nm) (W : WX) (σ : L2.St) (δ : Env) (Hb H : Hp) (Q : Option Int → Hp → Prop) : Res (Option Int) → Prop
  | .ok r δ' => ∀ Hb' H', Stp σ δ Hb H σ δ' Hb' H' → Good K N σ δ' Hb' H' → Q r H'
  | .ex c fs δ' => ∀ cv dd Hb' H', Stp σ δ Hb H σ δ' Hb' H' → Good K N σ δ' Hb' H' → XR K N Hb' cv dd c fs → W cv dd σ H'
def OJ (N : Nm) (X : Cx) (e : Option Expr) (m : M (Option Int)) : Prop :=
  ∀ δ res, m δ = some res → ∀ (W : WX) σ Hb H Q, Takes X W → Good X.K N σ δ Hb H → OPost X.K N W σ δ Hb H Q res → cO X e σ H Q
theorem oj_none : OJ N X none (M.bnd (evL cf []) fun l => looks l oneInt) := by
  intro δ res h W σ Hb H Q tk g post
  have e : res = .ok none δ := (Option.some.inj h).symm
  subst e
  exact cO_of po_none (post Hb H Stp.refl g)
theorem oj_some {e : Expr} {m : ME} (he : EJ N X e (evE cf m)) : OJ N X (some e) (M.bnd (evL cf [m]) fun l => looks l oneInt) := by
  intro δ res h W σ Hb H Q tk g post
  rcases M.bnd_ok h with ⟨l, δ1, e1, h2⟩ | ⟨c, fs, δ1, e1, rfl⟩
  · rcases M.bnd_ok e1 with ⟨r, δ2, e2, h3⟩ | ⟨c, fs, δ2, e2, h3⟩
    · have e3 : Res.ok l δ1 = Res.ok [r] δ2 := (Option.some.inj h3).symm
      cases e3
      obtain ⟨ds, a, v1, hr, rfl⟩ := looks_ok h2
      unfold vws vws at v1
      cases q : vw δ1 r with
      | none => rw [q] at v1; cases v1
      | some d =>
        rw [q] at v1
        cases (Option.some.inj v1)
        unfold oneInt at hr
        split at hr
        · rename_i q2; cases q2
        · rename_i q2
          cases q2
          cases hr
          refine cO_of (po_some (pe_c e)) (he δ _ e2 W σ Hb H _ tk g fun v Hb1 H1 s1 g1 r1 => ?_)
          exact ⟨_, (g1.vw r1 q).int, post Hb1 H1 s1 g1⟩
        · cases hr
    · cases h3
  · rcases M.bnd_ok e1 with ⟨r, δ2, e2, h3⟩ | ⟨c', fs', δ2, e2, h3⟩
    · cases h3
    · cases h3
      exact cO_of (po_some (pe_c e)) (he δ _ e2 W σ Hb H _ tk g post)
theorem ej_slc {a : Expr} {lo hi : Option Expr} {ma : M R} {ml mh : M (Option Int)} {p2 : Pos} (ha : EJ N X a ma) (hl : OJ N X lo ml) (hh : OJ N X hi mh) :
    EJ N X (.Subscript a (.Slice lo hi none p2) pos) (M.bnd ma fun x => M.bnd ml fun l => M.bnd mh fun h => look x fun d => slcD d l h) := by
  intro δ res h W σ Hb H Q tk g post
  have any : PE X (.Subscript a (.Slice lo hi none p2) pos) (tSl (fun _ _ _ _ _ => False) (cE X a) (cO X lo) (cO X hi)) := pe_slice (fun _ _ _ _ _ _ _ _ _ _ _ _ _ _ _ _ _ z => z.elim) (pe_c a) (po_c lo) (po_c hi)
  rcases M.bnd_ok h with ⟨x, δ1, e1, h2⟩ | ⟨c, fs, δ1, e1, rfl⟩
  · rcases M.bnd_ok h2 with ⟨l, δ2, e2, h3⟩ | ⟨c, fs, δ2, e2, rfl⟩
    · rcases M.bnd_ok h3 with ⟨u, δ3, e3, h4⟩ | ⟨c, fs, δ3, e3, rfl⟩
      · obtain ⟨d, r, v1, hr, rfl⟩ := look_ok h4
        have fin : ∃ rd, SlR X rd ∧ ∀ (Hb3 H3 : Hp) (v : V), Good X.K N σ δ3 Hb3 H3 → Vw X.K N Hb3 H3 v d → (∀ v' Hb' H', Stp σ δ3 Hb3 H3 σ δ3 Hb' H' → Good X.K N σ δ3 Hb' H' → RR X.K N σ δ3 Hb' H3 H' v' r → Q v' H') → rd v l u H3 Q := by
          unfold slcD at hr
          split at hr
          · cases hr
            refine ⟨_, sl_list, fun Hb3 H3 v g3 hv q => ?_⟩
            obtain ⟨p, xs, rfl, hp, rp⟩ := hv.lst g3.ex
            exact ⟨p, xs, rfl, .of hp, fun t ht => fin_own g3 ht (.lst (rp.cut l u)) q⟩
          · rename_i l0
            cases hr
            refine ⟨_, sl_tupA, fun Hb3 H3 v g3 hv q => ?_⟩
            have hv' := hv
            obtain ⟨p, xs, rfl, hp, rp⟩ := hv.tup g3.ex
            refine ⟨p, xs, rfl, .of hp, fun w => ?_, fun _ t ht => fin_new g3 ht (.tup upd_same ((rp.cut l u).mono (Ex.new (hb_none g3 ht)))) q⟩
            have e : cutD l0 l u = l0 := by
              unfold cutD
              rw [← RepL.length rp, w.1, w.2, List.drop_zero, Nat.sub_zero, RepL.length rp, List.take_length]
            rw [e] at q
            rcases hv' with z | ⟨_, _, _, _, z⟩
            · exact fin_dat g3 z q
            · cases z
          · cases hr
        obtain ⟨rd, hs, hrd⟩ := fin
        refine cE_of (pe_slice hs (pe_c a) (po_c lo) (po_c hi)) (ha δ _ e1 W σ Hb H _ tk g fun v Hb1 H1 s1 g1 r1 => ?_)
        refine hl δ1 _ e2 W σ Hb1 H1 _ tk g1 fun Hb2 H2 s2 g2 => ?_
        refine hh δ2 _ e3 W σ Hb2 H2 _ tk g2 fun Hb3 H3 s3 g3 => ?_
        have s23 := s2.trans s3
        exact hrd Hb3 H3 v g3 (g3.vw (r1.keep s23) v1) (post.lift (s1.trans s23))
      · refine cE_of any (ha δ _ e1 W σ Hb H _ tk g fun v Hb1 H1 s1 g1 r1 => ?_)
        refine hl δ1 _ e2 W σ Hb1 H1 _ tk g1 fun Hb2 H2 s2 g2 => ?_
        exact hh δ2 _ e3 W σ Hb2 H2 _ tk g2 fun cv dd Hb3 H3 s3 g3 r3 => post cv dd Hb3 H3 (s1.trans (s2.trans s3)) g3 r3
    · refine cE_of any (ha δ _ e1 W σ Hb H _ tk g fun v Hb1 H1 s1 g1 r1 => ?_)
      exact hl δ1 _ e2 W σ Hb1 H1 _ tk g1 fun cv dd Hb2 H2 s2 g2 r2 => post cv dd Hb2 H2 (s1.trans s2) g2 r2
  · exact cE_of any (ha δ _ e1 W σ Hb H _ tk g post)
theorem ej_rev {a : Expr} {ma : M R} {j : Nat} {p1 p2 p3 : Pos} (ha : EJ N X a ma) : EJ N X (.Subscript a (.Slice none none (some (.UnaryOp .USub (.Constant (.int 1) j p1) p2)) p3) pos) (M.bnd ma fun x => look x revD) := by
  intro δ res h W σ Hb H Q tk g post
  rcases M.bnd_ok h with ⟨x, δ1, e1, h2⟩ | ⟨c, fs, δ1, e1, rfl⟩
  · obtain ⟨d, r, v1, hr, rfl⟩ := look_ok h2
    unfold revD at hr
    split at hr
    · cases hr
      refine cE_of (pe_revL (pe_c a)) (ha δ _ e1 W σ Hb H _ tk g fun v Hb1 H1 s1 g1 r1 => ?_)
      obtain ⟨p, xs, rfl, hp, rp⟩ := (g1.vw r1 v1).lst g1.ex
      exact ⟨p, xs, rfl, .of hp, fun t ht => fin_own g1 ht (.lst rp.rev) (post.lift s1)⟩
    · cases hr
  · exact cE_of (pe_revL (pe_c a)) (ha δ _ e1 W σ Hb H _ tk g post)
end
end Rl

set_option Elab.async false
set_option linter.all false
set_option maxRecDepth 100000
set_option maxHeartbeats 4000000
/-! Lay I: calls. -/
namespace Rl
open PySem L2
section
variable {K : PySem.W.Frag} {N : Nm} {σ : L2.St} {δ δ0 δ' δ1 : Env} {Hb Hb' Hb0 H H' H0 H1 : Hp}
theorem Good.grow (g : Good K N σ δ Hb H) (e : Ex H H') : Good K N σ δ Hb H' :=
  ⟨g.ex.trans e, g.dat, fun i d q => let ⟨p, o, a, b, c, r⟩ := g.own i d q; ⟨p, o, a, b, e _ _ c, r⟩, g.sep, g.len⟩
theorem Stp.grow (e : Ex H H') : Stp σ δ Hb H σ δ Hb H' :=
  ⟨Ex.refl _, fun _ h _ => .inl h, fun a o h _ => e a o h, fun a h => by
    obtain ⟨u, hu⟩ := Option.ne_none_iff_exists'.mp h
    exact ne_none (e a u hu), fun _ h => .inl h⟩
theorem startD_pure : ∀ {ms : List Bool} {ds : List D}, ms.all (!·) = true → ms.length = ds.length → startD ms ds = ds.map fun d => some (.dat d)
  | [], [], _, _ => rfl
  | [], _ :: _, _, h => by cases h
  | _ :: _, [], _, h => by cases h
  | true :: ms, d :: ds, h, _ => by simp at h
  | false :: ms, d :: ds, h, hl => by
    show some (.dat d) :: startD ms ds = _
    rw [startD_pure (by simpa using h) (by simpa using hl)]
    rfl
theorem updA_pure : ∀ {ms : List Bool} {l : Env}, ms.all (!·) = true → ms.length = l.length → updA ms l [] = some l
  | [], [], _, _ => rfl
  | [], _ :: _, _, h => by cases h
  | _ :: _, [], _, h => by cases h
  | true :: ms, d :: ds, h, _ => by simp at h
  | false :: ms, d :: ds, h, hl => by
    show (updA ms ds []).map (d :: ·) = _
    rw [updA_pure (by simpa using h) (by simpa using hl)]
    rfl
theorem Good.ofData {vs : List V} {ds : List D} (h : RepL K N H vs ds) : Good K N (vs.map some) (ds.map fun d => some (.dat d)) H H where
  ex := Ex.refl _
  dat := fun i d e => by
    rw [List.getElem?_map] at e
    obtain ⟨d', e1, e2⟩ := Option.map_eq_some_iff.mp e
    cases e2
    obtain ⟨v, e3, r⟩ := h.get e1
    exact ⟨v, by rw [List.getElem?_map, e3]; rfl, r⟩
  own := fun i d e => by
    rw [List.getElem?_map] at e
    obtain ⟨d', e1, e2⟩ := Option.map_eq_some_iff.mp e
    cases e2
  sep := fun i j p d e _ q => by
    rw [List.getElem?_map] at q
    obtain ⟨d', e1, e2⟩ := Option.map_eq_some_iff.mp q
    cases e2
  len := by simp [RepL.length h]
theorem not_own_data {vs : List V} {ds : List D} {a : Addr} : ¬ Own (vs.map some) (ds.map fun d => some (B.dat d)) a := fun ⟨i, d, e, _⟩ => by
  rw [List.getElem?_map] at e
  obtain ⟨d', e1, e2⟩ := Option.map_eq_some_iff.mp e
  cases e2
theorem VwL.length {vs : List V} {ds : List D} (h : VwL K N Hb H vs ds) : vs.length = ds.length := by
  induction h with
  | nil => rfl
  | cons _ _ ih => simp [ih]
theorem Rep.flatAny {v : V} {d : D} (h : Rep K N Hb v d) (f : flatD d = true) (Hb' : Hp) : Rep K N Hb' v d := by
  cases h <;> first | (cases f; done) | constructor
/-- a call that changes nothing and hands back a flat thing -/
theorem callPure_ok (g : Good K N σ δ Hb H) {fi : FI} {vs : List V} {rs : List R} (r : RRl K N σ δ Hb H0 H vs rs) {res : Res R} (h : callPure fi rs δ = some res) :
    ∃ d, res = .ok (.dat d) δ ∧ flatD d = true ∧ ∀ (Q : VK) (E : XK), (∀ v H', Ex H H' → (∀ Hb, Rep K N Hb v d) → Q v H') → spOf K N fi vs H Q E := by
  unfold callPure at h
  split at h
  · rename_i hm
    obtain ⟨hm1, hm2⟩ := Bool.and_eq_true_iff.mp hm
    have hm2 := of_decide_eq_true hm2
    cases e1 : vws δ rs with
    | none => rw [e1] at h; cases h
    | some ds =>
      rw [e1] at h
      have hv := g.vws r e1
      have hlv := r.length
      have hl := hv.length
      cases e2 : fi.sem ds with
      | none => simp only [e2] at h; cases h
      | some o =>
        simp only [e2] at h
        cases o with
        | ex c fs as => cases h
        | ret w d as =>
          cases as with
          | cons _ _ => cases h
          | nil =>
            have h' : (if flatD d = true then some (Res.ok (R.dat d) δ) else none) = some res := h
            split at h'
            · rename_i hf
              refine ⟨d, (Option.some.inj h').symm, hf, fun Q E q => ?_⟩
              have hlm : fi.mask.length = ds.length := by omega
              have hs := startD_pure hm1 hlm
              refine ⟨H, ds, _, by omega, by omega, ?_, e2, ?_⟩
              · rw [hs]
                exact Good.ofData (hv.rep g.ex)
              · refine ⟨startD fi.mask ds, updA_pure hm1 (by rw [hs]; simp; omega), fun v Hb' H' s' g' r' => ?_⟩
                have ex : Ex H H' := s'.hb.trans g'.ex
                cases w with
                | false => exact q v H' ex fun Hb2 => Rep.flatAny (Hb := Hb') r' hf Hb2
                | true =>
                  obtain ⟨p, o, _, _, _, _, c, _⟩ := r'
                  cases c <;> cases hf
            · cases h'
  · cases h

/-! ### calls whose arguments may be changed -/
inductive Args (K : PySem.W.Frag) (N : Nm) (σ : L2.St) (δ : Env) (Hb : Hp) : List Bool → List V → List R → List D → List Nat → Prop
  | nil : Args K N σ δ Hb [] [] [] [] []
  | own {i : Nat} {d : D} {v : V} {ms : List Bool} {vs : List V} {rs : List R} {ds : List D} {is : List Nat} : δ[i]? = some (some (.own d)) → σ[i]? = some (some v) → Args K N σ δ Hb ms vs rs ds is →
      Args K N σ δ Hb (true :: ms) (v :: vs) (.bor i :: rs) (d :: ds) (i :: is)
  | dat {d : D} {v : V} {ms : List Bool} {vs : List V} {rs : List R} {ds : List D} {is : List Nat} : Rep K N Hb v d → Args K N σ δ Hb ms vs rs ds is →
      Args K N σ δ Hb (false :: ms) (v :: vs) (.dat d :: rs) (d :: ds) is
theorem args_of (g : Good K N σ δ Hb H) : ∀ {ms : List Bool} {vs : List V} {rs : List R} {ds : List D}, RRl K N σ δ Hb H0 H vs rs → ins δ ms rs = some ds → Args K N σ δ Hb ms vs rs ds (slotsAt ms rs)
  | [], _, [], ds, r, h => by
    cases r
    cases (Option.some.inj h)
    exact .nil
  | [], _, _ :: _, _, _, h => by cases h
  | true :: _, _, [], _, _, h => by cases h
  | false :: _, _, [], _, _, h => by cases h
  | true :: ms, _, .bor i :: rs, ds, .cons a b, h => by
    have h' : (match δ[i]?, ins δ ms rs with | some (some (.own d)), some ds => some (d :: ds) | _, _ => none) = some ds := h
    split at h'
    · rename_i d ds' e1 e2
      cases (Option.some.inj h')
      exact .own e1 a (args_of g b e2)
    · cases h'
  | true :: ms, _, .dat d :: rs, ds, _, h => by cases h
  | true :: ms, _, .own d :: rs, ds, _, h => by cases h
  | false :: ms, _, .bor i :: rs, ds, _, h => by cases h
  | false :: ms, _, .own i :: rs, ds, _, h => by cases h
  | false :: ms, _, .dat d :: rs, ds, .cons a b, h => by
    have h' : (ins δ ms rs).map (d :: ·) = some ds := h
    obtain ⟨ds', e1, rfl⟩ := map_some h'
    exact .dat a (args_of g b e1)
section
variable {ms : List Bool} {vs : List V} {rs : List R} {ds : List D} {is : List Nat}
theorem Args.len (a : Args K N σ δ Hb ms vs rs ds is) : vs.length = ms.length ∧ ds.length = ms.length ∧ (startD ms ds).length = ms.length := by
  induction a with
  | nil => exact ⟨rfl, rfl, rfl⟩
  | own _ _ _ ih => exact ⟨by simp [ih.1], by simp [ih.2.1], by show _ + 1 = _; simp [ih.2.2]⟩
  | dat _ _ ih => exact ⟨by simp [ih.1], by simp [ih.2.1], by show _ + 1 = _; simp [ih.2.2]⟩
/-- what stands at a place of a call's environment -/
theorem Args.at (a : Args K N σ δ Hb ms vs rs ds is) : ∀ {n : Nat} {b : B}, (startD ms ds)[n]? = some (some b) → ∃ v, vs[n]? = some v ∧ ((∃ d, b = .dat d ∧ Rep K N Hb v d) ∨ ∃ i d, b = .own d ∧ rs[n]? = some (R.bor i) ∧ i ∈ is ∧ δ[i]? = some (some (.own d)) ∧ σ[i]? = some (some v)) := by
  induction a with
  | nil => intro n b h; cases n <;> cases h
  | own h1 h2 _ ih =>
    intro n b h
    cases n with
    | zero =>
      cases (Option.some.inj (Option.some.inj h))
      exact ⟨_, rfl, .inr ⟨_, _, rfl, rfl, List.mem_cons_self, h1, h2⟩⟩
    | succ n =>
      obtain ⟨v, e, q⟩ := ih (n := n) (b := b) h
      refine ⟨v, e, q.imp (fun z => z) fun ⟨i, d, a1, a2, a3, a4⟩ => ⟨i, d, a1, a2, List.mem_cons_of_mem _ a3, a4⟩⟩
  | dat h1 _ ih =>
    intro n b h
    cases n with
    | zero =>
      cases (Option.some.inj (Option.some.inj h))
      exact ⟨_, rfl, .inl ⟨_, rfl, h1⟩⟩
    | succ n => exact ih (n := n) (b := b) h
theorem Args.slot_of (a : Args K N σ δ Hb ms vs rs ds is) : ∀ {i : Nat}, i ∈ is → ∃ (n : Nat) (d : D) (v : V), rs[n]? = some (R.bor i) ∧ (startD ms ds)[n]? = some (some (.own d)) ∧ vs[n]? = some v ∧ σ[i]? = some (some v) ∧ δ[i]? = some (some (.own d)) := by
  induction a with
  | nil => intro i h; cases h
  | own h1 h2 _ ih =>
    intro i h
    rcases List.mem_cons.mp h with rfl | h
    · exact ⟨0, _, _, rfl, rfl, rfl, h2, h1⟩
    · obtain ⟨n, d, v, q⟩ := ih h
      exact ⟨n + 1, d, v, q⟩
  | dat h1 _ ih =>
    intro i h
    obtain ⟨n, d, v, q⟩ := ih h
    exact ⟨n + 1, d, v, q⟩
theorem Args.mem (a : Args K N σ δ Hb ms vs rs ds is) : ∀ {n i : Nat}, rs[n]? = some (R.bor i) → i ∈ is := by
  induction a with
  | nil => intro n i h; cases n <;> cases h
  | own h1 h2 _ ih =>
    intro n i h
    cases n with
    | zero => cases h; exact List.mem_cons_self
    | succ n => exact List.mem_cons_of_mem _ (ih (n := n) h)
  | dat h1 _ ih =>
    intro n i h
    cases n with
    | zero => cases h
    | succ n => exact ih (n := n) h
theorem Args.inj (a : Args K N σ δ Hb ms vs rs ds is) : is.Nodup → ∀ {n m i : Nat}, rs[n]? = some (R.bor i) → rs[m]? = some (R.bor i) → n = m := by
  induction a with
  | nil => intro _ n m i h; cases n <;> cases h
  | own h1 h2 a ih =>
    intro nd n m i h h'
    have nd' := List.nodup_cons.mp nd
    cases n with
    | zero =>
      cases m with
      | zero => rfl
      | succ m => cases h; exact absurd (a.mem (n := m) h') nd'.1
    | succ n =>
      cases m with
      | zero => cases h'; exact absurd (a.mem (n := n) h) nd'.1
      | succ m => rw [ih nd'.2 (n := n) (m := m) h h']
  | dat h1 _ ih =>
    intro nd n m i h h'
    cases n with
    | zero => cases h
    | succ n =>
      cases m with
      | zero => cases h'
      | succ m => rw [ih nd (n := n) (m := m) h h']
/-- the state of a call -/
theorem Args.good (g : Good K N σ δ Hb H) (a : Args K N σ δ Hb ms vs rs ds is) (nd : is.Nodup) : Good K N (vs.map some) (startD ms ds) Hb H where
  ex := g.ex
  dat := fun i d e => by
    obtain ⟨v, e1, q⟩ := a.at e
    rcases q with ⟨d', q1, q2⟩ | ⟨_, _, q1, _⟩
    · cases q1; exact ⟨v, by rw [List.getElem?_map, e1]; rfl, q2⟩
    · cases q1
  own := fun i d e => by
    obtain ⟨v, e1, q⟩ := a.at e
    rcases q with ⟨d', q1, q2⟩ | ⟨j, d', q1, _, _, q3, q4⟩
    · cases q1
    · cases q1
      obtain ⟨p, o, a1, a2⟩ := g.own j d q3
      rw [q4] at a1
      cases a1
      exact ⟨p, o, by rw [List.getElem?_map, e1]; rfl, a2⟩
  sep := fun i j p d e n h1 h2 h3 h4 => by
    obtain ⟨v, e1, q⟩ := a.at h1
    obtain ⟨u, e2, q'⟩ := a.at h2
    rcases q with ⟨d', q1, q2⟩ | ⟨x, d', q1, q0, _, q3, q4⟩
    · cases q1
    · rcases q' with ⟨d', q1', q2⟩ | ⟨y, d'', q1', q0', _, q3', q4'⟩
      · cases q1'
      · cases q1; cases q1'
        rw [List.getElem?_map, e1] at h3
        rw [List.getElem?_map, e2] at h4
        have ev : v = .ref p := Option.some.inj (Option.some.inj h3)
        have eu : u = .ref p := Option.some.inj (Option.some.inj h4)
        subst ev eu
        refine g.sep x y p d e (fun z => ?_) q3 q3' q4 q4'
        subst z
        exact n (a.inj nd q0 q0')
  len := by rw [List.length_map, a.len.1, a.len.2.2]
theorem Args.ownIn (a : Args K N σ δ Hb ms vs rs ds is) {x : Addr} (h : Own (vs.map some) (startD ms ds) x) : ∃ i d, i ∈ is ∧ δ[i]? = some (some (.own d)) ∧ σ[i]? = some (some (.ref x)) := by
  obtain ⟨n, d, h1, h2⟩ := h
  obtain ⟨v, e1, q⟩ := a.at h1
  rcases q with ⟨d', q1, q2⟩ | ⟨i, d', q1, _, q5, q3, q4⟩
  · cases q1
  · rw [List.getElem?_map, e1] at h2
    cases (Option.some.inj (Option.some.inj h2))
    exact ⟨i, d', q5, q3, q4⟩
/-- the slots behind a call -/
theorem outs_ok : ∀ {is : List Nat} {as : List D} {δ δ' : Env}, is.Nodup → outs δ is as = some δ' → δ'.length = δ.length ∧ is.length = as.length ∧ (∀ j, j ∉ is → δ'[j]? = δ[j]?)
  | [], [], δ, δ', _, h => by cases (Option.some.inj h); exact ⟨rfl, rfl, fun _ _ => rfl⟩
  | [], _ :: _, _, _, _, h => by cases h
  | _ :: _, [], _, _, _, h => by cases h
  | i :: is, d :: ds, δ, δ', nd, h => by
    have nd' := List.nodup_cons.mp nd
    obtain ⟨h1, h2, h3⟩ := outs_ok nd'.2 (show outs (δ.set i (some (.own d))) is ds = some δ' from h)
    refine ⟨by rw [h1, List.length_set], by simp [h2], fun j hj => ?_⟩
    rw [h3 j (fun z => hj (List.mem_cons_of_mem _ z)), List.getElem?_set_ne (fun z => hj (by rw [z]; exact List.mem_cons_self))]
theorem Args.upd (a : Args K N σ δ Hb ms vs rs ds is) : ∀ {δc δ' : Env} {as : List D}, is.Nodup → (∀ i ∈ is, i < δc.length) → outs δc is as = some δ' →
    ∃ δs, updA ms (startD ms ds) as = some δs ∧ (∀ n i : Nat, rs[n]? = some (R.bor i) → ∃ d', δ'[i]? = some (some (.own d')) ∧ δs[n]? = some (some (.own d'))) ∧ (∀ (n : Nat) (d' : D), δs[n]? = some (some (.own d')) → ∃ i, rs[n]? = some (R.bor i)) := by
  induction a with
  | nil =>
    intro δc δ' as _ _ h
    cases as with
    | nil => exact ⟨_, rfl, fun n i z => (by cases n <;> cases z), fun n d' z => (by cases n <;> cases z)⟩
    | cons _ _ => cases h
  | @own i d v ms vs rs ds is h1 h2 a ih =>
    intro δc δ' as nd hlt h
    have nd' := List.nodup_cons.mp nd
    cases as with
    | nil => cases h
    | cons x as =>
      have h' : outs (δc.set i (some (.own x))) is as = some δ' := h
      obtain ⟨δs, q1, q2, q3⟩ := ih nd'.2 (fun j hj => by rw [List.length_set]; exact hlt j (List.mem_cons_of_mem _ hj)) h'
      refine ⟨some (.own x) :: δs, by show (updA ms (startD ms ds) as).map _ = _; rw [q1]; rfl, fun n j z => ?_, fun n d' z => ?_⟩
      · cases n with
        | zero =>
          cases z
          refine ⟨x, ?_, rfl⟩
          rw [(outs_ok nd'.2 h').2.2 i nd'.1, List.getElem?_set_self (hlt i List.mem_cons_self)]
        | succ n => exact q2 n j z
      · cases n with
        | zero => exact ⟨i, rfl⟩
        | succ n => exact q3 n d' z
  | @dat d v ms vs rs ds is h1 a ih =>
    intro δc δ' as nd hlt h
    obtain ⟨δs, q1, q2, q3⟩ := ih nd hlt h
    refine ⟨some (.dat d) :: δs, by show (updA ms (startD ms ds) as).map _ = _; rw [q1]; rfl, fun n j z => ?_, fun n d' z => ?_⟩
    · cases n with
      | zero => cases z
      | succ n => exact q2 n j z
    · cases n with
      | zero => cases z
      | succ n => exact q3 n d' z
/-- the frame's state behind a call -/
theorem Args.after (g : Good K N σ δ Hb H) (a : Args K N σ δ Hb ms vs rs ds is) (nd : is.Nodup) {as : List D} {δ' : Env} (h : outs δ is as = some δ') :
    ∃ δs, updA ms (startD ms ds) as = some δs ∧ ∀ Hb' H', Stp (vs.map some) (startD ms ds) Hb H (vs.map some) δs Hb' H' → Good K N (vs.map some) δs Hb' H' →
      Stp σ δ Hb H σ δ' Hb' H' ∧ Good K N σ δ' Hb' H' ∧ (∀ x, Own σ δ' x → Own σ δ x) := by
  have hlt : ∀ i ∈ is, i < δ.length := fun i hi => by
    obtain ⟨_, _, _, _, _, _, _, q⟩ := a.slot_of hi
    exact (List.getElem?_eq_some_iff.mp q).1
  obtain ⟨δs, q1, q2, q3⟩ := a.upd nd hlt h
  obtain ⟨l1, l2, l3⟩ := outs_ok nd h
  refine ⟨δs, q1, fun Hb' H' s' g' => ?_⟩
  have own1 : ∀ x, Own (vs.map some) (startD ms ds) x → Own σ δ x := fun x z => by
    obtain ⟨i, d, _, e1, e2⟩ := a.ownIn z
    exact ⟨i, d, e1, e2⟩
  have own2 : ∀ x, Own σ δ' x → Own σ δ x := fun x ⟨i, d, e1, e2⟩ => by
    by_cases hi : i ∈ is
    · obtain ⟨_, d', _, _, _, _, _, q⟩ := a.slot_of hi
      exact ⟨i, d', q, e2⟩
    · rw [l3 i hi] at e1
      exact ⟨i, d, e1, e2⟩
  refine ⟨⟨s'.hb, fun x h1 h2 => (s'.fresh x h1 h2).imp (fun z => z) (own1 x), fun x o h1 h2 => s'.frame x o h1 fun z => h2 (own1 x z), s'.dom, fun x z => .inl (own2 x z)⟩, ⟨g'.ex, fun i d e => ?_, fun i d e => ?_, fun i j p d e n e1 e2 e3 e4 => ?_, by rw [l1]; exact g.len⟩, own2⟩
  · by_cases hi : i ∈ is
    · obtain ⟨n, d', v, r1, r2, r3, r4, r5⟩ := a.slot_of hi
      obtain ⟨d2, z1, z2⟩ := q2 n i r1
      rw [e] at z1
      cases z1
    · rw [l3 i hi] at e
      obtain ⟨v, r1, r2⟩ := g.dat i d e
      exact ⟨v, r1, r2.mono s'.hb⟩
  · by_cases hi : i ∈ is
    · obtain ⟨n, d', v, r1, r2, r3, r4, r5⟩ := a.slot_of hi
      obtain ⟨d2, z1, z2⟩ := q2 n i r1
      rw [e] at z1
      cases z1
      obtain ⟨p, o, w1, w2⟩ := g'.own n _ z2
      rw [List.getElem?_map, r3] at w1
      cases (Option.some.inj (Option.some.inj w1))
      exact ⟨p, o, r4, w2⟩
    · rw [l3 i hi] at e
      obtain ⟨p, o, w1, w2, w3, w4⟩ := g.own i d e
      have no : ¬ Own (vs.map some) (startD ms ds) p := fun z => by
        obtain ⟨j, d', hj, e1, e2⟩ := a.ownIn z
        exact g.sep i j p d d' (fun z => hi (z ▸ hj)) e e1 w1 e2
      refine ⟨p, o, w1, ?_, s'.frame p o w3 no, w4.mono s'.hb⟩
      rcases s'.fresh p w2 (ne_none w3) with z | z
      · exact z
      · exact absurd z no
  · have back : ∀ {i : Nat} {d : D}, δ'[i]? = some (some (.own d)) → ∃ d', δ[i]? = some (some (.own d')) := fun {i d} e => by
      by_cases hi : i ∈ is
      · obtain ⟨_, d', _, _, _, _, _, q⟩ := a.slot_of hi
        exact ⟨d', q⟩
      · rw [l3 i hi] at e; exact ⟨d, e⟩
    obtain ⟨d1, f1⟩ := back e1
    obtain ⟨d2, f2⟩ := back e2
    exact g.sep i j p d1 d2 n f1 f2 e3 e4
end
end
end Rl

set_option Elab.async false
set_option linter.all false
set_option maxRecDepth 100000
set_option maxHeartbeats 4000000
/-! Lay J: the rules of calls. -/
namespace Rl
open PySem L2
section
variable {K : PySem.W.Frag} {N : Nm} {σ : L2.St} {δ δ0 δ' δ1 : Env} {Hb Hb' Hb0 H H' H0 H1 : Hp}
theorem Good.giveAt : ∀ {ms : List Bool} {vs : List V} {rs : List R} {δ : Env} {Hb : Hp} {res : Res (List R)}, Good K N σ δ Hb H → Stp σ δ0 Hb0 H0 σ δ Hb H → RRs K N σ δ Hb H0 H vs rs → giveAt ms rs δ = some res →
    ∃ rs' δ' Hb', res = .ok rs' δ' ∧ Stp σ δ0 Hb0 H0 σ δ' Hb' H ∧ Good K N σ δ' Hb' H ∧ RRl K N σ δ' Hb' H0 H vs rs' ∧ Ex Hb Hb'
  | [], _, [], δ, Hb, res, g, s, ⟨h, _⟩, e => by
    cases h
    cases (Option.some.inj e)
    exact ⟨[], δ, Hb, rfl, s, g, .nil, Ex.refl _⟩
  | [], _, _ :: _, _, _, _, _, _, _, e => by cases e
  | true :: _, _, [], _, _, _, _, _, _, e => by cases e
  | false :: _, _, [], _, _, _, _, _, _, e => by cases e
  | true :: _, _, .dat _ :: _, _, _, _, _, _, _, e => by cases e
  | true :: _, _, .own _ :: _, _, _, _, _, _, _, e => by cases e
  | true :: ms, _, .bor i :: rs, δ, Hb, res, g, s, ⟨h, nd⟩, e => by
    cases h with
    | @cons v _ vs _ h1 h2 =>
    rcases M.bnd_ok e with ⟨l, δ1, e1, e2⟩ | ⟨c, fs, δ1, e1, e2⟩
    · obtain ⟨rs', δ', Hb', q, a, b, c, d⟩ := Good.giveAt (ms := ms) g s ⟨h2, nd⟩ e1
      cases q
      cases (Option.some.inj e2)
      exact ⟨_, _, Hb', rfl, a, b, .cons h1 c, d⟩
    · obtain ⟨_, _, _, q, _⟩ := Good.giveAt (ms := ms) g s ⟨h2, nd⟩ e1
      cases q
  | false :: ms, _, r :: rs, δ, Hb, res, g, s, ⟨h, nd⟩, e => by
    cases h with
    | @cons v _ vs _ h1 h2 =>
    rcases M.bnd_ok e with ⟨d, δ1, e1, e2⟩ | ⟨c, fs, δ1, e1, e2⟩
    · obtain ⟨d', δ1', Hb1, q1, s1, g1, r1, x1, k1, o1, k1'⟩ := g.give s h1 e1
      cases q1
      have kk : ∀ q ∈ ownA vs rs, Hb1 q = none := fun q hq => by
        obtain ⟨_, a, b, _⟩ := h2.fresh q hq
        cases r with
        | dat d => exact k1' (fun _ z => nomatch z) q a b
        | bor i => exact k1' (fun _ z => nomatch z) q a b
        | own d =>
          refine k1 q a b fun z => ?_
          have := List.nodup_cons.mp nd
          exact this.1 (by rw [z]; exact hq)
      have nd2 : (ownA vs rs).Nodup := by
        cases r with
        | dat d => exact nd
        | bor i => exact nd
        | own d => exact (List.nodup_cons.mp nd).2
      rcases M.bnd_ok e2 with ⟨ds, δ2, e3, e4⟩ | ⟨c, fs, δ2, e3, e4⟩
      · obtain ⟨ds', δ2', Hb2, q2, s2, g2, r2, x2⟩ := Good.giveAt (ms := ms) g1 s1 ⟨h2.given x1 o1 kk, nd2⟩ e3
        cases q2
        cases (Option.some.inj e4)
        exact ⟨_, _, Hb2, rfl, s2, g2, .cons (r1.mono x2) r2, x1.trans x2⟩
      · obtain ⟨_, _, _, q2, _⟩ := Good.giveAt (ms := ms) g1 s1 ⟨h2.given x1 o1 kk, nd2⟩ e3
        cases q2
    · obtain ⟨_, _, _, q1, _⟩ := g.give s h1 e1
      cases q1
def EPostE (K : PySem.W.Frag) (N : Nm) (E : XK) (σ : L2.St) (δ : Env) (Hb H : Hp) (Q : VK) : Res R → Prop
  | .ok r δ' => ∀ v Hb' H', Stp σ δ Hb H σ δ' Hb' H' → Good K N σ δ' Hb' H' → RR K N σ δ' Hb' H H' v r → Q v H'
  | .ex c fs δ' => ∀ cv dd Hb' H', Stp σ δ Hb H σ δ' Hb' H' → Good K N σ δ' Hb' H' → XR K N Hb' cv dd c fs → E cv dd H'
theorem EPost.toE {W : WX} {Q : VK} {res : Res R} (h : EPost K N W σ δ Hb H Q res) : EPostE K N (WE W σ) σ δ Hb H Q res := by
  cases res with
  | ok r δ' => exact h
  | ex c fs δ' => exact h
theorem callMut_ok {fi : FI} {vs : List V} {rs : List R} {res : Res R} {E : XK} {Q : VK} (g : Good K N σ δ Hb H) (s : Stp σ δ0 Hb0 H0 σ δ Hb H) (r : RRs K N σ δ Hb H0 H vs rs)
    (h : callMut fi rs δ = some res) (post : EPostE K N E σ δ0 Hb0 H0 Q res) : spOf K N fi vs H Q E := by
  rcases M.bnd_ok h with ⟨rs1, δ1, e1, h2⟩ | ⟨c, fs, δ1, e1, e2⟩
  · obtain ⟨rs', δ', Hb1, q, s1, g1, r1, x1⟩ := g.giveAt s r e1
    cases q
    cases e2 : ins δ1 fi.mask rs1 with
    | none => simp only [e2] at h2; cases h2
    | some ds =>
      simp only [e2] at h2
      split at h2
      · rename_i nd
        have a := args_of g1 r1 e2
        cases e3 : fi.sem ds with
        | none => simp only [e3] at h2; cases h2
        | some o =>
          simp only [e3] at h2
          refine ⟨Hb1, ds, o, a.len.1, a.len.2.1, a.good g1 nd, e3, ?_⟩
          cases o with
          | ret w d as =>
            obtain ⟨δ2, e4, rfl⟩ := map_some h2
            obtain ⟨δs, q1, q2⟩ := a.after g1 nd e4
            refine ⟨δs, q1, fun v Hb' H' s' g' r' => ?_⟩
            obtain ⟨s2, g2, o2⟩ := q2 Hb' H' s' g'
            refine post v Hb' H' (s1.trans s2) g2 ?_
            cases w with
            | false => exact r'
            | true =>
              obtain ⟨p, o, ev, z1, z2, z3, z4, _⟩ := r'
              refine ⟨p, o, ev, ?_, z2, z3, z4, fun z => own_ltK g1 (o2 p z) z1⟩
              cases q3 : H0 p with
              | none => rfl
              | some u => exact absurd z1 (s1.dom p (ne_none q3))
          | ex c fs as =>
            obtain ⟨δ2, e4, rfl⟩ := map_some h2
            obtain ⟨δs, q1, q2⟩ := a.after g1 nd e4
            refine ⟨δs, q1, fun cv dd Hb' H' s' g' r' => ?_⟩
            obtain ⟨s2, g2, o2⟩ := q2 Hb' H' s' g'
            exact post cv dd Hb' H' (s1.trans s2) g2 r'
      · cases h2
  · obtain ⟨_, _, _, q, _⟩ := g.giveAt s r e1
    cases q
theorem callR_okE {fi : FI} {vs : List V} {rs : List R} {res : Res R} {E : XK} {Q : VK} (g : Good K N σ δ Hb H) (s : Stp σ δ0 Hb0 H0 σ δ Hb H) (r : RRs K N σ δ Hb H0 H vs rs)
    (h : callR fi rs δ = some res) (post : EPostE K N E σ δ0 Hb0 H0 Q res) : spOf K N fi vs H Q E := by
  unfold callR at h
  cases e : callPure fi rs δ with
  | none => rw [e] at h; exact callMut_ok g s r h post
  | some r1 =>
    rw [e] at h
    cases (Option.some.inj h)
    obtain ⟨d, rfl, f, q⟩ := callPure_ok g r.1 e
    exact q Q _ fun v H' ex hr => post v Hb H' (s.trans (Stp.grow ex)) (g.grow ex) (hr Hb)
theorem callR_ok {fi : FI} {vs : List V} {rs : List R} {res : Res R} {W : WX} {Q : VK} (g : Good K N σ δ Hb H) (s : Stp σ δ0 Hb0 H0 σ δ Hb H) (r : RRs K N σ δ Hb H0 H vs rs)
    (h : callR fi rs δ = some res) (post : EPost K N W σ δ0 Hb0 H0 Q res) : spOf K N fi vs H Q (WE W σ) := callR_okE g s r h post.toE
end
section
variable {X : Cx} {k : Nat} {Ns : List Str} {sc : Scope} {N : Nm} {cf : Cfg} {pos : Pos}
theorem XOk.room0 (o : XOk X k Ns sc N cf) : Room k X.A := o.room.mono (Nat.le_succ _)
theorem run_sp {a : Addr} {fd : FuncData} {ps : List Str} {fi : FI} {W : WX} {σ : L2.St} {pins : List (Addr × Obj)} {H : Hp} {s : Shared} {Q : VK} {us : List Value} {vs : List V}
    (F : FnOk X.prog X.w X.K X.mg X.base (L2.CX X.prog X.w) k a fd ps (spOf X.K N fi)) (hr : Room k X.A) (hb : Binds X.K fd ps []) (tk : Takes X W) (I : Inv X pins σ H s) (r : Vals vs us) (h : spOf X.K N fi vs H Q (WE W σ)) :
    wpAny (model X.prog X.w) X.A (call (.ref a) us) (EP X pins σ Q) X.xe s :=
  run_fnSD (E := fun σ => WE W σ) (dvs := []) F hr hb .nil (passAt tk σ) I r (by rw [List.append_nil]; exact h)
/-- what a known def is called with -/
def sCall (K : PySem.W.Frag) (N : Nm) (fi : FI) (W : WX) (ta : TA) : TE := fun σ H Q => ta σ H fun vs H1 => spOf K N fi vs H1 Q (WE W σ)
theorem pe_sp (o : XOk X k Ns sc N cf) {f : Str} {p : Pos} {e : Expr} {es : List Expr} {fi : FI} {W : WX} {ta : TA} (hf : cf.fns f = some fi) (hg : glB sc f = true) (hd : (f == ("__debug__" : Str)) = false) (hs : (e :: es).all noStar = true) (tk : Takes X W) (ha : PA X (e :: es) ta) :
    PE X (.Call (.Name f p) (e :: es) [] pos) (sCall X.K N fi W ta) := by
  obtain ⟨a, hm, _, fd, ps, F, hk, hb, _⟩ := o.tab.fns f fi hf
  rw [List.all_cons, Bool.and_eq_true] at hs
  refine ⟨fun pins s σ H Q I h => ?_⟩
  refine wpAny_Call_Name_kw (ld_glob I (o.gl hg) hm ?_ hd)
  refine PySem.W.callWith_K (h₀ := X.base) I.ok.mod.kin hk (thn (ha.run pos pins s σ H _ I h) fun us s1 ⟨vs, H1, I1, r, q⟩ => ⟨I1.kIn, ?_⟩) (star_ok hs.1) (star_plain hs.2)
  exact run_sp F o.room0 hb tk I1 r q
theorem pe_sp0 (o : XOk X k Ns sc N cf) {f : Str} {p : Pos} {fi : FI} {W : WX} (hf : cf.fns f = some fi) (hg : glB sc f = true) (hd : (f == ("__debug__" : Str)) = false) (tk : Takes X W) :
    PE X (.Call (.Name f p) [] [] pos) (sCall X.K N fi W tNil) := by
  obtain ⟨a, hm, _, fd, ps, F, hk, hb, _⟩ := o.tab.fns f fi hf
  refine ⟨fun pins s σ H Q I h => ?_⟩
  refine wpAny_Call_Name_kw (ld_glob I (o.gl hg) hm ?_ hd)
  exact PySem.W.callWith_K0 I.kIn hk (run_sp (us := []) F o.room0 hb tk I .nil h)
/-- a call, its arguments ahead -/
theorem ej_call {e : Expr} {ms : M (List R)} {fi : FI} {es : List Expr} (ha : AJ N X es ms) (hp : ∀ W, Takes X W → PE X e (sCall X.K N fi W (cA X es))) : EJ N X e (M.bnd ms fun rs => callR fi rs) := by
  intro δ res h W σ Hb H Q tk g post
  rcases M.bnd_ok h with ⟨rs, δ1, e1, h2⟩ | ⟨c, fs, δ1, e1, rfl⟩
  · refine cE_of (hp W tk) (ha δ _ e1 W σ Hb H _ tk g fun vs Hb1 H1 s1 g1 r1 => ?_)
    exact callR_ok g1 s1 r1 h2 post
  · exact cE_of (hp W tk) (ha δ _ e1 W σ Hb H _ tk g post)
theorem ej_cal (o : XOk X k Ns sc N cf) {f : Str} {p : Pos} {e : Expr} {es : List Expr} {ms : M (List R)} {fi : FI} (hf : cf.fns f = some fi) (hg : glB sc f = true) (hd : (f == ("__debug__" : Str)) = false) (hs : (e :: es).all noStar = true) (ha : AJ N X (e :: es) ms) :
    EJ N X (.Call (.Name f p) (e :: es) [] pos) (M.bnd ms fun rs => callR fi rs) := ej_call ha fun W tk => pe_sp o hf hg hd hs tk (pa_c _)
theorem ej_cal0 (o : XOk X k Ns sc N cf) {f : Str} {p : Pos} {fi : FI} (hf : cf.fns f = some fi) (hg : glB sc f = true) (hd : (f == ("__debug__" : Str)) = false) : EJ N X (.Call (.Name f p) [] [] pos) (M.bnd (M.ret []) fun rs => callR fi rs) := by
  intro δ res h W σ Hb H Q tk g post
  have h2 : callR fi [] δ = some res := h
  exact cE_of (pe_sp0 o hf hg hd tk) (callR_ok g Stp.refl ⟨.nil, .nil⟩ h2 post)
/-- f(..), f a local that holds a def -/
theorem ej_clv (o : XOk X k Ns sc N cf) {i : Nat} {x : Str} {p : Pos} {e : Expr} {es : List Expr} {ms : M (List R)} (hi : Ns[i]? = some x) (hv : visB sc x = true) (h1 : (x == ("__debug__" : Str)) = false) (h2 : (x == ("__classdict__" : Str)) = false)
    (hs : (e :: es).all noStar = true) (ha : AJ N X (e :: es) ms) :
    EJ N X (.Call (.Name x p) (e :: es) [] pos) (fun δ => match δ[i]? with
      | some (some (.dat (.fn f))) => match cf.fns f with
        | some fi => M.bnd ms (fun rs => callR fi rs) δ
        | none => none
      | _ => none) := by
  intro δ res h W σ Hb H Q tk g post
  have h : (match δ[i]? with
      | some (some (.dat (.fn f))) => (match cf.fns f with
        | some fi => M.bnd ms (fun rs => callR fi rs) δ
        | none => none)
      | _ => none) = some res := h
  split at h
  · rename_i f hδ
    split at h
    · rename_i fi hf
      rw [List.all_cons, Bool.and_eq_true] at hs
      obtain ⟨v, hσ, rv⟩ := g.dat i _ hδ
      obtain ⟨a, hm, hfa', fd, ps, F, hk, hb, _⟩ := o.tab.fns f fi hf
      cases rv with
      | fn hfa =>
      rw [hfa'] at hfa
      cases hfa
      have key : ∀ (Qc : List V → Hp → Prop), (∀ vs H1 pins s us, Qc vs H1 → Inv X pins σ H1 s → Vals vs us → wpAny (model X.prog X.w) X.A (call (.ref a) us) (EP X pins σ Q) X.xe s) → cA X (e :: es) σ H Qc → cE X (.Call (.Name x p) (e :: es) [] pos) σ H Q := fun Qc hq hA pins s I => by
        refine wpAny_Call_Name_kw (thn ((pe_var (pos := p) (o.ix hi) (o.vis hv) h1 h2).run pins s σ H (fun v H1 => v = .ref a ∧ H1 = H) I ⟨.ref a, hσ, rfl, rfl⟩) fun u s1 ⟨v, H1, I1, r1, q1⟩ => ?_)
        obtain ⟨rfl, rfl⟩ := q1
        cases r1
        exact PySem.W.callWith_K (h₀ := X.base) I.ok.mod.kin hk (thn (hA pos pins s1 I1) fun us s2 ⟨vs, H2, I2, r, q⟩ => ⟨I2.kIn, hq vs H2 pins s2 us q I2 r⟩) (star_ok hs.1) (star_plain hs.2)
      rcases M.bnd_ok h with ⟨rs, δ1, e1, h3⟩ | ⟨c, fs, δ1, e1, rfl⟩
      · refine key (fun vs H1 => spOf X.K N fi vs H1 Q (WE W σ)) (fun vs H1 pins s us q I r => run_sp F o.room0 hb tk I r q) ?_
        exact ha δ _ e1 W σ Hb H _ tk g fun vs Hb1 H1 s1 g1 r1 => callR_ok g1 s1 r1 h3 post
      · exact key (fun _ _ => False) (fun _ _ _ _ _ q => q.elim) (ha δ _ e1 W σ Hb H _ tk g post)
    · cases h
  · cases h

/-! ### methods of own classes -/
theorem RepF.none {K : PySem.W.Frag} {Hb : Hp} {f : Str} : ∀ {xs : List (Str × V)} {ds : List (Str × D)}, RepF K N Hb xs ds → ds.lookup f = none → xs.lookup f = none
  | _, _, .nil, _ => rfl
  | _, _, .cons (k := k) (vs := vs) (ds := ds) a b, h => by
    rw [List.lookup_cons] at h ⊢
    cases q : (f == k) with
    | true => rw [q] at h; cases h
    | false => rw [q] at h; exact RepF.none b h
theorem RepF.some {K : PySem.W.Frag} {Hb : Hp} {f : Str} {d : D} : ∀ {xs : List (Str × V)} {ds : List (Str × D)}, RepF K N Hb xs ds → ds.lookup f = some d → ∃ v, xs.lookup f = some v ∧ Rep K N Hb v d
  | _, _, .nil, h => by cases h
  | _, _, .cons (k := k) (v := v) (vs := vs) (ds := ds) a b, h => by
    rw [List.lookup_cons] at h ⊢
    cases q : (f == k) with
    | true => rw [q] at h; cases (Option.some.inj h); exact ⟨v, rfl, a⟩
    | false => rw [q] at h; exact RepF.some b h
/-- o.m(..) -/
def sMeth (K : PySem.W.Frag) (N : Nm) (C : Addr) (m : Str) (fi : FI) (W : WX) (te : TE) (ta : TA) : TE := fun σ H Q => te σ H fun x H1 => ∃ a dx fs, x = .ref a ∧ H1 a = some (.ins C dx fs) ∧ fs.lookup m = none ∧ ta σ H1 fun vs H2 => spOf K N fi (x :: vs) H2 Q (WE W σ)

theorem form_ok {pos : Pos} {env : PySem.Env} {es : List Expr} (hs : es.all noStar = true) (hn : es.length < 30) : methodCallForm (es.length + ([] : List Keyword).length) (backTo pos (starEach es env)) (backToKw pos (keywordEach [] env)) = true := by
  unfold methodCallForm
  have h1 : (backTo pos (starEach es env)).all (fun x => !x.1) = true := by
    have := star_plain (pos := pos) (env := env) hs
    rw [List.all_eq_not_any_not]
    simpa using this
  rw [h1]
  have e : backToKw pos (keywordEach [] env) = [] := rfl
  rw [e]
  simpa using hn
theorem eval_meth {env : PySem.Env} {o : Expr} {m : Str} {apos pos : Pos} {es : List Expr} (hb : plainBase o = true) (hs : es.all noStar = true) (hn : es.length < 30) (hl : (apos.endLine == pos.line) = true) :
    eval (.Call (.Attribute o m apos) es [] pos) env = (do
      let ov ← eval o env
      standAt apos.atName
      let (f, first) ← holding [ov] (getMethod ov m (do return (← importBound o env).getD true))
      callWith pos f first (backTo pos (starEach es env)) (backToKw pos (keywordEach [] env))) := by
  have h0 : eval (.Call (.Attribute o m apos) es [] pos) env = (do
      let ov ← attributeBase o m env (eval o env)
      standAt apos.atName
      methodCall o m apos pos env ov (es.length + ([] : List Keyword).length) (backTo pos (starEach es env)) (backToKw pos (keywordEach [] env))) := rfl
  rw [h0, base_ok hb]
  have h1 : ∀ ov, methodCall o m apos pos env ov (es.length + ([] : List Keyword).length) (backTo pos (starEach es env)) (backToKw pos (keywordEach [] env)) = (do
      let (f, first) ← holding [ov] (getMethod ov m (do return (← importBound o env).getD true))
      callWith pos f first (backTo pos (starEach es env)) (backToKw pos (keywordEach [] env))) := fun ov => by
    unfold methodCall
    rw [form_ok hs hn]
    have e : methodCallPos true o env apos pos = pure pos := by
      unfold methodCallPos
      rw [hl]
      rfl
    rw [e]
    rfl
  simp only [h1]
theorem pe_msp (o : XOk X k Ns sc N cf) {c m : Str} {C : Addr} {ob : Expr} {apos : Pos} {es : List Expr} {fi : FI} {W : WX} {te : TE} {ta : TA} (hC : N.cls c = some C) (hf : cf.mth c m = some fi) (hb : plainBase ob = true) (hs : es.all noStar = true) (hn : es.length < 30) (hl : (apos.endLine == pos.line) = true)
    (tk : Takes X W) (he : PE X ob te) (ha : es ≠ [] → PA X es ta) (h0 : es = [] → ta = tNil) : PE X (.Call (.Attribute ob m apos) es [] pos) (sMeth X.K N C m fi W te ta) := by
  obtain ⟨C', a, hC', hfl, hm, fd, ps, F, hk, hbd, _⟩ := o.tab.mth c m fi hf
  rw [hC] at hC'
  cases hC'
  have cl := o.tab.cls c C hC hfl
  refine ⟨fun pins s σ H Q I h => ?_⟩
  refine PySem.W.methodCall_KW (thn (he.run pins s σ H _ I h) fun u s1 ⟨x, H1, I1, rx, a', dx, fs, ex, ea, l, q⟩ => ?_) (eval_meth hb hs hn hl)
  subst ex
  obtain rfl : u = Value.ref a' := rx
  refine getmeth_ok I1 ea cl hm l ?_
  cases es with
  | nil =>
    have e0 := h0 rfl
    subst e0
    exact PySem.W.callWith_K0 (first := [.ref a']) I1.kIn hm.kp (run_sp (us := [.ref a']) F o.room0 hbd tk I1 (.cons (show RelV (V.ref a') (Value.ref a') from rfl) .nil) q)
  | cons e es =>
    rw [List.all_cons, Bool.and_eq_true] at hs
    refine PySem.W.callWith_K (first := [.ref a']) (h₀ := X.base) I.ok.mod.kin hm.kp (thn ((ha (by simp)).run pos pins s1 σ H1 _ I1 q) fun us s2 ⟨vs, H2, I2, r, q2⟩ => ⟨I2.kIn, ?_⟩) (star_ok hs.1) (star_plain hs.2)
    exact run_sp (us := .ref a' :: us) F o.room0 hbd tk I2 (.cons (show RelV (V.ref a') (Value.ref a') from rfl) r) q2
theorem RR.cons {K : PySem.W.Frag} {σ : L2.St} {δ : Env} {Hb H H0 Hm : Hp} {v : V} {r : R} {vs : List V} {rs : List R} (h : RR K N σ δ Hb H0 H v r) (hm : ∀ d, r = .own d → Hm (adr v) ≠ none) (hl : RRs K N σ δ Hb Hm H vs rs) (k : ∀ a, H0 a ≠ none → Hm a ≠ none) : RRs K N σ δ Hb H0 H (v :: vs) (r :: rs) := by
  refine ⟨.cons h (hl.1.base k), ?_⟩
  cases r with
  | dat d => exact hl.2
  | bor i => exact hl.2
  | own d =>
    refine List.nodup_cons.mpr ⟨fun z => ?_, hl.2⟩
    exact hm d rfl (hl.1.fresh _ z).1
theorem ej_mth (o : XOk X k Ns sc N cf) {c m : Str} {ob : Expr} {apos : Pos} {es : List Expr} {fi : FI} {mo : M R} {ms : M (List R)} (hf : cf.mth c m = some fi) (hb : plainBase ob = true) (hs : es.all noStar = true) (hn : es.length < 30) (hl : (apos.endLine == pos.line) = true)
    (he : EJ N X ob mo) (ha : AJ N X es ms) (h0 : es = [] → ms = M.ret []) : EJ N X (.Call (.Attribute ob m apos) es [] pos) (M.bnd mo fun x => M.bnd (isC c m x) fun _ => M.bnd ms fun rs => callR fi (x :: rs)) := by
  intro δ res h W σ Hb H Q tk g post
  obtain ⟨C, _, hC, _⟩ := o.tab.mth c m fi hf
  have hp : PE X (.Call (.Attribute ob m apos) es [] pos) (sMeth X.K N C m fi W (cE X ob) (if es = [] then tNil else cA X es)) := by
    refine pe_msp o hC hf hb hs hn hl tk (pe_c _) (fun z => ?_) (fun z => ?_)
    · rw [if_neg z]; exact pa_c _
    · rw [if_pos z]
  rcases M.bnd_ok h with ⟨x, δ1, e1, h2⟩ | ⟨c', fs, δ1, e1, rfl⟩
  · rcases M.bnd_ok h2 with ⟨_, δ1', e2, h3⟩ | ⟨c', fs, δ2, e2, rfl⟩
    · obtain ⟨d, u, v1, hd, e3⟩ := look_ok e2
      cases e3
      refine cE_of hp (he δ _ e1 W σ Hb H _ tk g fun v Hb1 H1 s1 g1 r1 => ?_)
      unfold isCD at hd
      split at hd
      · split at hd
        · rename_i c' fs hcf
          obtain ⟨rfl, hl0⟩ := hcf
          obtain ⟨a, C', dx, xs, rfl, ha', hC', rf⟩ := (g1.vw r1 v1).ins g1.ex
          rw [hC] at hC'
          cases hC'
          refine ⟨a, dx, xs, rfl, ha', rf.none hl0, ?_⟩
          by_cases hes : es = []
          · rw [if_pos hes]
            rw [h0 hes] at h3
            have h4 : callR fi [x] δ1 = some res := h3
            exact callR_ok g1 s1 (RR.cons r1 (fun d z => by subst z; obtain ⟨p, o, e, _, _, f, _⟩ := r1; cases e; exact ne_none f) ⟨.nil, .nil⟩ s1.dom) h4 post
          · rw [if_neg hes]
            rcases M.bnd_ok h3 with ⟨rs, δ2, e4, h5⟩ | ⟨c', fs, δ2, e4, rfl⟩
            · refine ha δ1 _ e4 W σ Hb1 H1 _ tk g1 fun vs Hb2 H2 s2 g2 r2 => ?_
              refine callR_ok g2 (s1.trans s2) (RR.cons (r1.keep s2) (fun d z => ?_) r2 s1.dom) h5 post
              subst z
              obtain ⟨p, o, e, _, _, f, _⟩ := r1
              cases e
              exact ne_none f
            · exact ha δ1 _ e4 W σ Hb1 H1 _ tk g1 fun cv dd Hb2 H2 s2 g2 r2 => post cv dd Hb2 H2 (s1.trans s2) g2 r2
        · cases hd
      · cases hd
    · obtain ⟨_, _, _, _, z⟩ := look_ok e2
      cases z
  · exact cE_of hp (he δ _ e1 W σ Hb H _ tk g post)
end
end Rl

set_option Elab.async false
set_option linter.all false
set_option maxRecDepth 100000
set_option maxHeartbeats 4000000
/-! Lay K: instances made, attributes, comparisons. -/
namespace Rl
open PySem L2
section
variable {X : Cx} {k : Nat} {Ns : List Str} {sc : Scope} {N : Nm} {cf : Cfg} {pos : Pos}
/-! ### C(..) -/
def sMake (K : PySem.W.Frag) (N : Nm) (C : Addr) (fi : FI) (W : WX) (ta : TA) : TE := fun σ H Q => ta σ H fun vs H1 => ∀ x dx, H1 x = none → H1 dx = none → dx ≠ x →
  spOf K N fi (.ref x :: vs) (upd (upd H1 dx (.own x)) x (.ins C dx [])) (fun v H2 => v = .non ∧ Q (.ref x) H2) (WE W σ)
theorem run_makeS {C a : Addr} {fd : FuncData} {ps : List Str} {fi : FI} {W : WX} {σ : L2.St} {pins : List (Addr × Obj)} {H : Hp} {s : Shared} {Q : VK} {us : List Value} {vs : List V} (M : Mk X.K C a)
    (F : FnOk X.prog X.w X.K X.mg X.base (L2.CX X.prog X.w) k a fd ps (spOf X.K N fi)) (hr : Room (k + 1) X.A) (hb : Binds X.K fd ps []) (tk : Takes X W) (I : Inv X pins σ H s) (r : Vals vs us)
    (h : ∀ x dx, H x = none → H dx = none → dx ≠ x → spOf X.K N fi (.ref x :: vs) (upd (upd H dx (.own x)) x (.ins C dx [])) (fun v H2 => v = .non ∧ Q (.ref x) H2) (WE W σ)) :
    wpAny (model X.prog X.w) X.A (call (.ref C) us) (EP X pins σ Q) X.xe s := by
  have hq := h (s.heap.objs.size + 1) s.heap.objs.size (I.hok.fresh (Nat.le_succ _)) (I.hok.fresh (Nat.le_refl _)) (Nat.ne_of_lt (Nat.lt_succ_self _))
  have I2 := Inv.made (C := C) I
  have r2 : Vals (V.ref (s.heap.objs.size + 1) :: vs) (Value.ref (s.heap.objs.size + 1) :: us) := .cons rfl r
  have hl : (Value.ref (s.heap.objs.size + 1) :: us).length = ps.length := by
    have e := r2.length
    rw [F.len _ _ _ _ hq] at e
    exact e.symm
  refine wpAny_call (make_map (f := a) I.kIn M.makes M.init (beq_iff_eq.mp M.fn) (codeAny_mono (F.run _ X.stack _ _ ⟨Value.ref (s.heap.objs.size + 1) :: us, []⟩ (Value.ref (s.heap.objs.size + 1) :: us) _ _ (WE W σ) (hr.make C us [])
    (I2.env0.make C us []) (by have := hb _ (Value.ref (s.heap.objs.size + 1) :: us) I2.kIn (by rw [List.append_nil]; exact hl); rw [List.append_nil] at this; exact this) r2 hq) fun r s' hq' => ?_))
  cases r with
  | error e => exact passAt tk σ pins _ _ e s' I2 hq'
  | ok fl =>
    cases fl with
    | ret u =>
      obtain ⟨v, H', I3, rv, ev, q3⟩ := I2.after hq'
      subst ev
      exact ⟨rv, ⟨V.ref (s.heap.objs.size + 1), H', I3, rfl, q3⟩⟩
    | next => exact False.elim hq'
    | brk => exact False.elim hq'
    | cont => exact False.elim hq'
theorem pe_mk (o : XOk X k Ns sc N cf) {c : Str} {C : Addr} {p : Pos} {es : List Expr} {fi : FI} {W : WX} {ta : TA} (hC : N.cls c = some C) (hf : cf.ini c = some fi) (hg : glB sc c = true) (hd : (c == ("__debug__" : Str)) = false) (hs : es.all noStar = true) (tk : Takes X W)
    (ha : es ≠ [] → PA X es ta) (h0 : es = [] → ta = tNil) : PE X (.Call (.Name c p) es [] pos) (sMake X.K N C fi W ta) := by
  obtain ⟨C', a, hC', hm, M, fd, ps, F, hk, hb, _⟩ := o.tab.ini c fi hf
  rw [hC] at hC'
  cases hC'
  refine ⟨fun pins s σ H Q I h => ?_⟩
  refine wpAny_Call_Name_kw (ld_glob I (o.gl hg) hm ?_ hd)
  cases es with
  | nil =>
    have e0 := h0 rfl
    subst e0
    exact PySem.W.callWith_K0 I.kIn M.kp (run_makeS (us := []) M F o.room hb tk I .nil h)
  | cons e es =>
    rw [List.all_cons, Bool.and_eq_true] at hs
    refine PySem.W.callWith_K (h₀ := X.base) I.ok.mod.kin M.kp (thn ((ha (by simp)).run pos pins s σ H _ I h) fun us s1 ⟨vs, H1, I1, r, q⟩ => ⟨I1.kIn, ?_⟩) (star_ok hs.1) (star_plain hs.2)
    exact run_makeS M F o.room hb tk I1 r q
/-- the call of an __init__ on a new instance -/
theorem newR_ok {K : PySem.W.Frag} {σ : L2.St} {δ δ0 : Env} {Hb Hb0 H H0 : Hp} {fi : FI} {c : Str} {C : Addr} {ds : List D} {vs : List V} {res : Res R} {W : WX} {Q : VK} (g : Good K N σ δ Hb H) (s : Stp σ δ0 Hb0 H0 σ δ Hb H) (hC : N.cls c = some C)
    (r : RepL K N Hb vs ds) (h : newR fi c ds δ = some res) (post : EPost K N W σ δ0 Hb0 H0 Q res) : ∀ x dx, H x = none → H dx = none → dx ≠ x →
    spOf K N fi (.ref x :: vs) (upd (upd H dx (.own x)) x (.ins C dx [])) (fun v H2 => v = .non ∧ Q (.ref x) H2) (WE W σ) := by
  intro x dx hx hdx hne
  have hH1 : Ex H (upd (upd H dx (.own x)) x (.ins C dx [])) := (Ex.new hdx).trans (Ex.new (by rw [upd_ne (Ne.symm hne)]; exact hx))
  have g1 : Good K N σ δ Hb (upd (upd H dx (.own x)) x (.ins C dx [])) := g.grow hH1
  have hbx := hb_none g hx
  unfold newR at h
  split at h
  · rename_i hm
    have ha : Good K N ((V.ref x :: vs).map some) (startD fi.mask (.ins c [] :: ds)) Hb (upd (upd H dx (.own x)) x (.ins C dx [])) := by
      rw [hm]
      show Good K N (some (V.ref x) :: vs.map some) (some (.own (.ins c [])) :: startD (List.replicate ds.length false) ds) _ _
      have e1 : startD (List.replicate ds.length false) ds = ds.map fun d => some (B.dat d) := startD_pure (by simp) (by simp)
      rw [e1]
      refine ⟨g1.ex, fun i d e => ?_, fun i d e => ?_, fun i j p d e n e1 e2 e3 e4 => ?_, by simp [RepL.length r]⟩
      · cases i with
        | zero => cases e
        | succ i =>
          rw [List.getElem?_cons_succ, List.getElem?_map] at e
          obtain ⟨d', q1, q2⟩ := Option.map_eq_some_iff.mp e
          cases q2
          obtain ⟨v, q3, q4⟩ := r.get q1
          exact ⟨v, by rw [List.getElem?_cons_succ, List.getElem?_map, q3]; rfl, q4⟩
      · cases i with
        | zero =>
          cases e
          exact ⟨x, _, rfl, hbx, upd_same, .ins hC .nil⟩
        | succ i =>
          rw [List.getElem?_cons_succ, List.getElem?_map] at e
          obtain ⟨d', q1, q2⟩ := Option.map_eq_some_iff.mp e
          cases q2
      · cases i with
        | zero =>
          cases j with
          | zero => exact n rfl
          | succ j =>
            rw [List.getElem?_cons_succ, List.getElem?_map] at e2
            obtain ⟨d', q1, q2⟩ := Option.map_eq_some_iff.mp e2
            cases q2
        | succ i =>
          rw [List.getElem?_cons_succ, List.getElem?_map] at e1
          obtain ⟨d', q1, q2⟩ := Option.map_eq_some_iff.mp e1
          cases q2
    have noOwn : ∀ a, Own ((V.ref x :: vs).map some) (startD fi.mask (.ins c [] :: ds)) a → a = x := fun a ⟨i, d, e1, e2⟩ => by
      rw [hm] at e1
      have e0 : startD (List.replicate ds.length false) ds = ds.map fun d => some (B.dat d) := startD_pure (by simp) (by simp)
      have e1' : (some (B.own (.ins c [])) :: startD (List.replicate ds.length false) ds)[i]? = some (some (.own d)) := e1
      rw [e0] at e1'
      cases i with
      | zero => cases (Option.some.inj (Option.some.inj e2)); rfl
      | succ i =>
        rw [List.getElem?_cons_succ, List.getElem?_map] at e1'
        obtain ⟨d', q1, q2⟩ := Option.map_eq_some_iff.mp e1'
        cases q2
    -- what the frame keeps behind the call
    have keep : ∀ δs Hb' H', Stp ((V.ref x :: vs).map some) (startD fi.mask (.ins c [] :: ds)) Hb (upd (upd H dx (.own x)) x (.ins C dx [])) ((V.ref x :: vs).map some) δs Hb' H' → Good K N ((V.ref x :: vs).map some) δs Hb' H' →
        Stp σ δ Hb H σ δ Hb' H' ∧ Good K N σ δ Hb' H' := fun δs Hb' H' s' g' => by
      have ne : ∀ a, H a ≠ none → a ≠ x := fun a n z => n (z ▸ hx)
      have hg1 : ∀ a, H a ≠ none → (upd (upd H dx (.own x)) x (.ins C dx [])) a ≠ none := fun a n => by
        obtain ⟨u, hu⟩ := Option.ne_none_iff_exists'.mp n
        exact ne_none (hH1 a u hu)
      have st : Stp σ δ Hb H σ δ Hb' H' := ⟨s'.hb, fun a e n => by
        rcases s'.fresh a e (hg1 a n) with z | z
        · exact .inl z
        · exact absurd (noOwn a z) (ne a n), fun a o e n => s'.frame a o (hH1 a o e) fun z => ne a (ne_none e) (noOwn a z), fun a n => s'.dom a (hg1 a n), fun a z => .inl z⟩
      refine ⟨st, ⟨g'.ex, fun i d e => ?_, fun i d e => ?_, g.sep, g.len⟩⟩
      · obtain ⟨v, a, b⟩ := g.dat i d e
        exact ⟨v, a, b.mono s'.hb⟩
      · obtain ⟨p, ob, a, b, c', d'⟩ := g.own i d e
        refine ⟨p, ob, a, ?_, s'.frame p ob (hH1 p ob c') fun z => ne p (ne_none c') (noOwn p z), d'.mono s'.hb⟩
        rcases s'.fresh p b (hg1 p (ne_none c')) with z | z
        · exact z
        · exact absurd (noOwn p z) (ne p (ne_none c'))
    have hl1 : (V.ref x :: vs).length = fi.mask.length := by rw [hm]; simp [RepL.length r]
    have hl2 : (D.ins c [] :: ds).length = fi.mask.length := by rw [hm]; simp
    have hu : ∀ d, updA fi.mask (startD fi.mask (.ins c [] :: ds)) [d] = some (some (.own d) :: startD (List.replicate ds.length false) ds) := fun d => by
      rw [hm]
      show (updA (List.replicate ds.length false) (startD (List.replicate ds.length false) ds) []).map (some (.own d) :: ·) = _
      have e0 : startD (List.replicate ds.length false) ds = ds.map fun d => some (B.dat d) := startD_pure (by simp) (by simp)
      rw [updA_pure (by simp) (by rw [e0]; simp)]
      rfl
    split at h
    · rename_i d hs
      cases (Option.some.inj h)
      refine ⟨Hb, _, _, hl1, hl2, ha, hs, _, hu d, fun v Hb' H' s' g' r' => ?_⟩
      have rv : Rep K N Hb' v .non := r'
      cases rv
      refine ⟨rfl, ?_⟩
      obtain ⟨st, g2⟩ := keep _ Hb' H' s' g'
      obtain ⟨p, ob, q1, q2, q3, q4⟩ := g'.own 0 d rfl
      have q1' : some (some (V.ref x)) = some (some (V.ref p)) := q1
      cases q1'
      refine post _ Hb' H' (s.trans st) g2 ⟨x, ob, rfl, ?_, q2, q3, q4, fun z => own_ltK g z hx⟩
      cases q5 : H0 x with
      | none => rfl
      | some u => exact absurd hx (s.dom x (ne_none q5))
    · rename_i c' fs d0 hs
      cases (Option.some.inj h)
      refine ⟨Hb, _, _, hl1, hl2, ha, hs, _, hu _, fun cv dd Hb' H' s' g' r' => ?_⟩
      obtain ⟨st, g2⟩ := keep _ Hb' H' s' g'
      exact post cv dd Hb' H' (s.trans st) g2 r'
    · cases h
  · cases h
theorem ej_new (o : XOk X k Ns sc N cf) {c : Str} {p : Pos} {es : List Expr} {fi : FI} {ms : M (List R)} (hf : cf.ini c = some fi) (hg : glB sc c = true) (hd : (c == ("__debug__" : Str)) = false) (hs : es.all noStar = true) (ha : AJ N X es ms) (h0 : es = [] → ms = M.ret []) :
    EJ N X (.Call (.Name c p) es [] pos) (M.bnd ms fun rs => M.bnd (gives rs) fun ds => newR fi c ds) := by
  intro δ res h W σ Hb H Q tk g post
  obtain ⟨C, _, hC, _⟩ := o.tab.ini c fi hf
  have hp : PE X (.Call (.Name c p) es [] pos) (sMake X.K N C fi W (if es = [] then tNil else cA X es)) := by
    refine pe_mk o hC hf hg hd hs tk (fun z => ?_) (fun z => ?_)
    · rw [if_neg z]; exact pa_c _
    · rw [if_pos z]
  rcases M.bnd_ok h with ⟨rs, δ1, e1, h2⟩ | ⟨c', fs, δ1, e1, rfl⟩
  · refine cE_of hp ?_
    by_cases hes : es = []
    · rw [if_pos hes]
      rw [h0 hes] at e1
      cases (Option.some.inj e1)
      have h3 : newR fi c [] δ = some res := h2
      exact newR_ok g Stp.refl hC .nil h3 post
    · rw [if_neg hes]
      refine ha δ _ e1 W σ Hb H _ tk g fun vs Hb1 H1 s1 g1 r1 => ?_
      rcases M.bnd_ok h2 with ⟨ds, δ2, e2, h3⟩ | ⟨c', fs, δ2, e2, rfl⟩
      · obtain ⟨ds', δ', Hb2, q2, s2, g2, r2, _⟩ := g1.gives s1 r1 e2
        cases q2
        exact newR_ok g2 s2 hC r2 h3 post
      · obtain ⟨_, _, _, q2, _⟩ := g1.gives s1 r1 e2
        cases q2
  · by_cases hes : es = []
    · rw [h0 hes] at e1
      cases e1
    · refine cE_of hp ?_
      rw [if_neg hes]
      exact ha δ _ e1 W σ Hb H _ tk g post

/-! ### attributes -/
theorem RRs.one {K : PySem.W.Frag} {σ : L2.St} {δ : Env} {Hb H H0 : Hp} {v : V} {r : R} (h : RR K N σ δ Hb H0 H v r) : RRs K N σ δ Hb H0 H [v] [r] := by
  refine ⟨.cons h .nil, ?_⟩
  cases r with
  | dat d => exact .nil
  | bor i => exact .nil
  | own d => exact List.nodup_cons.mpr ⟨by simp [ownA], .nil⟩
def attM (cf : Cfg) (f : Str) (x : R) : M R := fun δ => match vw δ x with
  | some (.ins c fs) => match cf.prp c f with
    | some fi => match callR fi [x] δ with
      | some (.ok r δ) => some (.ok r δ)
      | _ => none
    | none => match cf.flds c, fs.lookup f with
      | some l, some d => if f ∈ l then some (.ok (.dat d) δ) else none
      | _, _ => none
  | _ => none
theorem ej_att (o : XOk X k Ns sc N cf) {a : Expr} {f : Str} {ma : M R} (hb : plainBase a = true) (ha : EJ N X a ma) : EJ N X (.Attribute a f pos) (M.bnd ma (attM cf f)) := by
  intro δ res h W σ Hb H Q tk g post
  rcases M.bnd_ok h with ⟨x, δ1, e1, h2⟩ | ⟨c, fs, δ1, e1, rfl⟩
  · unfold attM at h2
    split at h2
    · rename_i c fs hv
      split at h2
      · rename_i fi hp
        obtain ⟨C, p, gt, hC, hfl, hpr, ⟨fd, ps, F, hk, hbd, _⟩, hm⟩ := o.tab.prp c f fi hp
        have cl := o.tab.cls c C hC hfl
        split at h2
        · rename_i r δ2 hcall
          cases (Option.some.inj h2)
          refine cE_of (pe_prop (pos := pos) (pe_c a) cl hpr F o.room hbd .nil (E := E0) passL (base_ok hb)) (ha δ _ e1 W σ Hb H _ tk g fun v Hb1 H1 s1 g1 r1 => ?_)
          obtain ⟨a', C', dx, xs, rfl, ha', hC', rf⟩ := (g1.vw r1 hv).ins g1.ex
          rw [hC] at hC'
          cases hC'
          refine ⟨a', dx, xs, rfl, ha', ?_⟩
          exact callR_okE (E := E0) g1 s1 (RRs.one r1) hcall post
        · cases h2
      · split at h2
        · rename_i l d hl hd
          split at h2
          · rename_i hfm
            cases (Option.some.inj h2)
            refine cE_of (pe_fld (pe_c a) (base_ok hb)) (ha δ _ e1 W σ Hb H _ tk g fun v Hb1 H1 s1 g1 r1 => ?_)
            obtain ⟨a', C, dx, xs, rfl, ha', hC, rf⟩ := (g1.vw r1 hv).ins g1.ex
            obtain ⟨u, hu, ru⟩ := rf.some hd
            exact ⟨a', C, dx, xs, u, rfl, ha', o.tab.cls c C hC (by rw [hl]; rfl), o.tab.fld c C f l hC hl hfm, hu, post u Hb1 H1 s1 g1 ru⟩
          · cases h2
        · cases h2
    · cases h2
  · exact cE_of (pe_fld (pe_c a) (base_ok hb)) (ha δ _ e1 W σ Hb H _ tk g post)
end
end Rl

set_option Elab.async false
set_option linter.all false
set_option maxRecDepth 100000
set_option maxHeartbeats 4000000
/-! Lay N: != of an instance with an own == and no own !=. -/
namespace PySem.W
open PySem PySem.Spec PyProof.Rows PySem.Calls
section
variable {prog : Program} {w : World} {A : Around} {E : Value → Shared → Prop} {s : Shared} {K : Frag} {x C L f : Addr} {h₀ : Heap} {m : Str → Option Value} {ox : Obj} {od : Option Obj} {name : Str} {b tb : Value}
theorem ifBound_ne {M : Model} {args : List Value} {Q : Option Value → Shared → Prop} (X : K.In s.heap) (I : InstAt s.heap x ox C od) (hs : findIn K (.ref C) "__ne__" = some (some (.builtin "object.__ne__")))
    (h : wpAny M A (call (.builtin "object.__ne__") (.ref x :: args)) (fun v => Q (some v)) E s) : wpAny M A (callSpecialIfBound? (.ref x) "__ne__" args) Q E s := by
  simp only [callSpecialIfBound?, bindSpecialIfBound?]
  refine wpAny_holding (wpAny_bind (wpAny_bind (wpAny_bind (I.type.here ((looks_findIn X hs).here ?_)))))
  simp only [PySem.F.cmp_object.ne.bind]
  refine wpAny_bind (wpAny_askSetting (wpAny_ite ?_))
  have fin : wpAny M A (call (.builtin "object.__ne__") ([.ref x] ++ args) >>= fun v => pure (some v)) Q E s := wpAny_bind (wpAny_mono h (fun v s' h' => wpAny_pure h') fun _ _ h' => h')
  split
  · exact wpAny_bind (wpAny_pure (wpAny_pure fin))
  · exact wpAny_tryCatch (wpAny_bind (wpAny_pure (wpAny_pure fin)))
theorem check_ne {M : Model} {rest : List Value} {Q : Unit → Shared → Prop} (X : K.In s.heap) (I : InstAt s.heap x ox C od) (hm : mroIn K C (.type "object") = some true) (ha : argsOk "object.__ne__" ⟨.ref x :: rest, []⟩) (hq : Q () s) :
    wpAny M A (checkBuiltinCall "object.__ne__" ⟨.ref x :: rest, []⟩) Q E s := by
  simp only [checkBuiltinCall, F.cmpKind_ne, F.cmpSplit_ne]
  have sub : Looks M s.heap (isInstance (.ref x) (.type "object")) true := I.type.andThen (looks_mroIn X hm)
  refine wpAny_bind (sub.here ?_)
  cases hsig : Manifest.signature? "object.__ne__" with
  | none => exact wpAny_pure hq
  | some sig =>
    simp only [argsOk, hsig] at ha
    have h2 : Bind.checkArgs "object.__ne__" sig ⟨.ref x :: rest, []⟩ = pure () := ha
    show wpAny M A (Bind.checkArgs "object.__ne__" sig ⟨.ref x :: rest, []⟩) Q E _
    rw [h2]; exact wpAny_pure hq
theorem ne_own {Q : Value → Shared → Prop} (hu : A.units + 1 < cLine) (F : Fr h₀ L s.heap m) (X₀ : K.In h₀) (I : InstAt s.heap x ox C od) (hb : Looks (model prog w) s.heap (typeOf b) tb) (hn : notFirst K C tb = true)
    (hs : findIn K (.ref C) "__ne__" = some (some (.builtin "object.__ne__"))) (hm : mroIn K C (.type "object") = some true) (he : findIn K (.ref C) "__eq__" = some (some (.ref f))) (hf : isFn K (.ref f) = true)
    (h : wpAny (model prog w) A.in1 (call (.ref f) [.ref x, b]) (fun v s' => ∃ r, v = .bool r ∧ Q (.bool (!r)) s') E s) : wpAny (model prog w) A (richCompare .NotEq (.ref x) b) Q E s := by
  have X := X₀.keeps F.keep
  have one : wpAny (model prog w) A (tryCompare (.ref x) (cmpInfo .NotEq).2.1 b) (fun r s' => ∃ v, r = some v ∧ Q v s') E s := by
    unfold tryCompare
    refine wpAny_bind (ifBound_ne X I hs (wpAny_call (codeAny_call_builtin PySem.F.cmp_object.ne.plain PySem.F.cmpEntry_ne (check_ne X I hm (PySem.F.cmpArgs_ne _ _) ?_))))
    obtain ⟨hp, g, d, t, os⟩ := s
    unfold Builtin.«object.__ne__»
    repeat (first
      | with_reducible refine wpAny_cRoomFor (show A.in1.units < cLine from hu) ?_
      | (refine wpAny_bind (m := callSpecialIfBound? (.ref x) (Str.ofString "__eq__") [b])
          (ifBound_K X I he hf (wpAny_mono h (fun r s' hr => by
            obtain ⟨b, rfl, hq⟩ := hr
            repeat (first | exact ⟨_, rfl, hq⟩ | exact wpAny_pure ⟨_, rfl, hq⟩ | exact wpAny_pure (wpAny_pure ⟨_, rfl, hq⟩) | (refine wpAny_bind (m := truthy (.bool _)) (wpAny_truthy_bool ?_)) | wp_step)) fun _ _ e => e)))
      | wp_step)
  unfold richCompare
  simp only [oneThing_ref]
  refine wpAny_holding (wpAny_bind (wpAny_cRoomFor (Nat.lt_of_succ_lt hu) ?_))
  refine wpAny_bind (I.type.here (wpAny_bind (hb.here ?_)))
  split
  · rename_i q
    have e : subIn K tb (.ref C) = some false := by
      rcases Bool.or_eq_true_iff.mp hn with e | e
      · rw [beq_iff_eq.mp e] at q; simp at q
      · exact beq_iff_eq.mp e
    refine wpAny_bind ((looks_subIn X e).here ?_)
    simp only [Bool.false_eq_true, if_false]
    refine wpAny_bind (wpAny_mono one (fun r s' z => ?_) fun _ _ e => e)
    obtain ⟨v, rfl, hq⟩ := z
    exact wpAny_pure hq
  · refine wpAny_bind (wpAny_pure ?_)
    simp only [Bool.false_eq_true, if_false]
    refine wpAny_bind (wpAny_mono one (fun r s' z => ?_) fun _ _ e => e)
    obtain ⟨v, rfl, hq⟩ := z
    exact wpAny_pure hq
end
end PySem.W

set_option Elab.async false
set_option linter.all false
set_option maxRecDepth 100000
set_option maxHeartbeats 4000000
/-! Lay M: == of dicts. -/
namespace Rl
open PySem L2
inductive HitsV (K : PySem.W.Frag) (H : Hp) (ls : List (Key × V)) : List (Key × V) → Bool → Prop
  | nil : HitsV K H ls [] true
  | miss {k : Key} {v : V} {r : List (Key × V)} : valV ls k = none → HitsV K H ls ((k, v) :: r) false
  | hit {k : Key} {v y : V} {p q : PyData} {r : List (Key × V)} {b : Bool} : valV ls k = some y → Dp K H v p → Dp K H y q → SeqAt.shaped p = true → SeqAt.shaped q = true → HitsV K H ls r b → HitsV K H ls ((k, v) :: r) (PyData.eqv p q && b)
section
variable {X : Cx} {pins : List (Addr × Obj)} {σ : L2.St} {H : Hp} {s : Shared}
theorem HitsV.keq (I : Inv X pins σ H s) {A : Around} (hu : A.in1.units + 64 < cLine) {ls : List (Key × V)} {vb : List (Key × Value)} (rb : KV ls vb) {ks : List (Key × V)} {b : Bool} (h : HitsV X.K H ls ks b) :
    ∀ {va : List (Key × Value)}, KV ks va → PySem.W.KeqHits A.in1 s vb va b := by
  induction h with
  | nil => intro va r; cases r; exact .nil
  | @miss k v r hn =>
    intro va hr
    cases hr with
    | @cons _ q _ qs h t =>
      obtain ⟨h1, h2⟩ := h
      obtain ⟨k', v'⟩ := q
      have h1' : k = k' := h1
      subst h1'
      have := rb.val k
      rw [hn] at this
      exact .miss (RelO.none_of this)
  | @hit k v y p q r b hy dp dq sp sq _ ih =>
    intro va hr
    cases hr with
    | @cons _ q' _ qs h t =>
      obtain ⟨h1, h2⟩ := h
      obtain ⟨k', v'⟩ := q'
      have h1' : k = k' := h1
      subst h1'
      have := rb.val k
      rw [hy] at this
      obtain ⟨u, hu', ru⟩ := RelO.some_of this
      obtain ⟨as, r1⟩ := Dp.reads I p v v' dp h2
      obtain ⟨bs, r2⟩ := Dp.reads I q y u dq ru
      exact .hit hu' (PySem.W.keq_at r1 r2 sp sq hu) (ih t)
end
section
variable {X : Cx}
def rEqK (K : PySem.W.Frag) (neg : Bool) : R2 := fun x y H Q => ∃ a b ks ls r, x = .ref a ∧ y = .ref b ∧ H a = some (.dK ks) ∧ H b = some (.dK ls) ∧ (ks.length = ls.length → HitsV K H ls ks r) ∧
  Q (.bl (if neg then !(decide (ks.length = ls.length) && r) else (decide (ks.length = ls.length) && r))) H
theorem op_eqK (hu : X.A.units + 65 < cLine) : OpR X (compareOp .Eq) (rEqK X.K false) := by
  intro pins s σ H x y v u Q I rx ry h
  obtain ⟨a, b, ks, ls, r, rfl, rfl, ha, hb, hh, q⟩ := h
  cases rx
  cases ry
  obtain ⟨_, ya, va, ra, da⟩ := (show ObjOk X.prog X.w H s.heap a (.dK ks) from I.hok a _ ha)
  obtain ⟨_, yb, vb, rb, db⟩ := (show ObjOk X.prog X.w H s.heap b (.dK ls) from I.hok b _ hb)
  refine PySem.W.keq_eq (knd := mixKind X.prog X.w) (r := r) ya yb da db (by omega) (fun hl => HitsV.keq I (by show X.A.units + 1 + 64 < cLine; omega) rb (hh (by rw [ra.length, rb.length]; exact hl)) ra) ⟨.bl _, H, I, rfl, ?_⟩
  have e : (va.length == vb.length) = decide (ks.length = ls.length) := by rw [ra.length, rb.length]; simp [BEq.beq]
  rw [e]
  exact q
theorem op_neK (hu : X.A.units + 65 < cLine) : OpR X (compareOp .NotEq) (rEqK X.K true) := by
  intro pins s σ H x y v u Q I rx ry h
  obtain ⟨a, b, ks, ls, r, rfl, rfl, ha, hb, hh, q⟩ := h
  cases rx
  cases ry
  obtain ⟨_, ya, va, ra, da⟩ := (show ObjOk X.prog X.w H s.heap a (.dK ks) from I.hok a _ ha)
  obtain ⟨_, yb, vb, rb, db⟩ := (show ObjOk X.prog X.w H s.heap b (.dK ls) from I.hok b _ hb)
  refine PySem.W.keq_ne (knd := mixKind X.prog X.w) (r := r) ya yb da db (by omega) (fun hl => HitsV.keq I (by show X.A.units + 1 + 64 < cLine; omega) rb (hh (by rw [ra.length, rb.length]; exact hl)) ra) ⟨.bl _, H, I, rfl, ?_⟩
  have e : (va.length == vb.length) = decide (ks.length = ls.length) := by rw [ra.length, rb.length]; simp [BEq.beq]
  rw [e]
  exact q
end
section
variable {N : Nm} {H : Hp} {K : PySem.W.Frag}
theorem eqKs_hits {ls : List (Key × V)} {b : List (Key × D)} (rb : RepK K N H ls b) : ∀ {ks : List (Key × V)} {a : List (Key × D)} {r : Bool}, RepK K N H ks a → eqKs b a = some r → HitsV K H ls ks r
  | _, _, r, .nil, e => by cases (Option.some.inj e); exact .nil
  | _, _, r, .cons (k := k) (v := v) (d := d) (vs := vs) (ds := ds) h t, e => by
    unfold eqKs at e
    cases q : eqKs b ds with
    | none => rw [q] at e; cases e
    | some t' =>
      rw [q] at e
      cases q2 : getK b k with
      | none =>
        rw [q2] at e
        cases (Option.some.inj e)
        exact .miss (rb.none q2)
      | some d' =>
        rw [q2] at e
        obtain ⟨s, hs, rfl⟩ := map_some e
        obtain ⟨p, p', h1, h2, h3, h4, rfl⟩ := eqD_some hs
        obtain ⟨y, hy, ry⟩ := rb.some q2
        exact .hit hy (h.dp h1) (ry.dp h2) h3 h4 (eqKs_hits rb t q)
theorem eqDct_hits {ls ks : List (Key × V)} {a b : List (Key × D)} {r : Bool} (ra : RepK K N H ks a) (rb : RepK K N H ls b) (e : eqDct a b = some r) :
    ∃ r', (ks.length = ls.length → HitsV K H ls ks r') ∧ (decide (ks.length = ls.length) && r') = r := by
  unfold eqDct at e
  rw [← ra.length, ← rb.length] at e
  split at e
  · rename_i hl
    exact ⟨r, fun _ => eqKs_hits rb ra e, by simp [hl]⟩
  · rename_i hl
    cases (Option.some.inj e)
    exact ⟨false, fun z => absurd z hl, by simp⟩
end
end Rl

set_option Elab.async false
set_option linter.all false
set_option maxRecDepth 100000
set_option maxHeartbeats 4000000
/-! Lay L: comparisons as expressions. -/
namespace Rl
open PySem L2
section
variable {X : Cx} {k : Nat} {Ns : List Str} {sc : Scope} {N : Nm} {cf : Cfg} {pos : Pos}
theorem cmpR_noex {o : CO} {x y : R} {δ : Env} {c : Str} {fs : List (Str × D)} {δ' : Env} : cmpR cf o x y δ ≠ some (.ex c fs δ') := fun h => by
  unfold cmpR at h
  split at h
  · split at h
    · split at h <;> cases h
    · cases h
  · split at h
    · obtain ⟨_, _, z⟩ := map_some h; cases z
    · obtain ⟨_, _, z⟩ := map_some h; cases z
    · cases h
  · obtain ⟨_, _, z⟩ := map_some h; cases z
  · cases h
/-- x == y, x != y where x has an own == -/
def sEqO (X : Cx) (N : Nm) (C : Addr) (fi : FI) (neg : Bool) : R2 := fun x y H Q => ∃ a dx fs b, x = .ref a ∧ H a = some (.ins C dx fs) ∧ y = .ref b ∧ ((∃ dy gs, H b = some (.ins C dy gs)) ∨ ∃ ys, H b = some (.lst ys)) ∧
  spOf X.K N fi [x, y] H (fun v H' => ∃ r, v = .bl r ∧ Q (.bl (if neg then !r else r)) H') E0
theorem typ_looks {pins : List (Addr × Obj)} {σ : L2.St} {H : Hp} {s : Shared} {C b : Addr} (I : Inv X pins σ H s) (hb : (∃ dy gs, H b = some (.ins C dy gs)) ∨ ∃ ys, H b = some (.lst ys)) :
    ∃ tb, PySem.W.Looks (model X.prog X.w) s.heap (typeOf (.ref b)) tb ∧ (tb = .ref C ∨ tb = .type "list") := by
  rcases hb with ⟨dy, gs, hb⟩ | ⟨ys, hb⟩
  · obtain ⟨mB, J', _⟩ := ins_get I.hok hb
    obtain ⟨od', J', _⟩ := J'.look
    exact ⟨_, J'.type, .inl rfl⟩
  · obtain ⟨_, its, n, _, h1⟩ := (show ObjOk X.prog X.w H s.heap b (.lst ys) from I.hok b _ hb)
    exact ⟨_, (PySem.W.Looks.ld (part := none) h1).andThen .now, .inr rfl⟩
theorem op_eqO (o : XOk X k Ns sc N cf) {c : Str} {C : Addr} {fi : FI} (hf : cf.mth c "__eq__" = some fi) (hC : N.cls c = some C) : OpR X (compareOp .Eq) (sEqO X N C fi false) := by
  obtain ⟨C', a, hC', hfl, hm, fd, ps, F, hk, hbd, _⟩ := o.tab.mth c _ fi hf
  rw [hC] at hC'
  cases hC'
  obtain ⟨C', hC', h1, h2, h3⟩ := o.tab.eqs c fi hf
  rw [hC] at hC'
  cases hC'
  intro pins s σ H x y v u Q I rx ry h
  obtain ⟨p, dx, fs, b, rfl, hp, rfl, hb, hsp⟩ := h
  cases rx
  cases ry
  obtain ⟨tb, lk, ht⟩ := typ_looks I hb
  obtain ⟨mA, J, _⟩ := ins_get I.hok hp
  obtain ⟨od, J, _⟩ := J.look
  obtain ⟨m, hF⟩ := I.fr
  show wpAny (model X.prog X.w) X.A (richCompare .Eq (.ref p) (.ref b)) (EP X pins σ Q) X.xe s
  refine PySem.W.cmp_K (op := .Eq) (tb := tb) o.room.units0 hF I.ok.mod.kin J lk ?_ hm.at_ hm.fn ?_
  · rcases ht with rfl | rfl
    · simp [PySem.W.notFirst]
    · simp [PySem.W.notFirst, h3]
  · refine thn (run_sp (W := fun _ _ _ _ => False) (us := [.ref p, .ref b]) (vs := [.ref p, .ref b]) F o.room0 hbd takes0 I (.cons rfl (.cons rfl .nil)) hsp) fun w s1 ⟨z, H1, I1, rz, r, ez, q⟩ => ?_
    subst ez
    cases rz
    exact ⟨.bl r, H1, I1, rfl, q⟩
theorem op_neO (o : XOk X k Ns sc N cf) {c : Str} {C : Addr} {fi : FI} (hf : cf.mth c "__eq__" = some fi) (hC : N.cls c = some C) : OpR X (compareOp .NotEq) (sEqO X N C fi true) := by
  obtain ⟨C', a, hC', hfl, hm, fd, ps, F, hk, hbd, _⟩ := o.tab.mth c _ fi hf
  rw [hC] at hC'
  cases hC'
  obtain ⟨C', hC', h1, h2, h3⟩ := o.tab.eqs c fi hf
  rw [hC] at hC'
  cases hC'
  intro pins s σ H x y v u Q I rx ry h
  obtain ⟨p, dx, fs, b, rfl, hp, rfl, hb, hsp⟩ := h
  cases rx
  cases ry
  obtain ⟨tb, lk, ht⟩ := typ_looks I hb
  obtain ⟨mA, J, _⟩ := ins_get I.hok hp
  obtain ⟨od, J, _⟩ := J.look
  obtain ⟨m, hF⟩ := I.fr
  show wpAny (model X.prog X.w) X.A (richCompare .NotEq (.ref p) (.ref b)) (EP X pins σ Q) X.xe s
  refine PySem.W.ne_own (tb := tb) o.hu hF I.ok.mod.kin J lk ?_ h1 h2 hm.at_ hm.fn ?_
  · rcases ht with rfl | rfl
    · simp [PySem.W.notFirst]
    · simp [PySem.W.notFirst, h3]
  · have hl : ([Value.ref p, .ref b]).length = ps.length := (F.len _ _ _ _ hsp).symm ▸ rfl
    refine wpAny_call (codeAny_mono (F.run X.A.in1 X.stack s H ⟨[.ref p, .ref b], []⟩ [.ref p, .ref b] [.ref p, .ref b] _ E0 o.room.in1 I.env0.in1 (by
      have := hbd s [.ref p, .ref b] I.kIn (by simpa using hl)
      simpa using this) (.cons rfl (.cons rfl .nil)) hsp) fun r s' hq => ?_)
    cases r with
    | error e => exact passL (X := X) pins σ H s e s' I hq
    | ok fl =>
      cases fl with
      | ret w =>
        obtain ⟨z, H1, I1, rz, r, ez, q⟩ := I.after hq
        subst ez
        cases rz
        exact ⟨r, rfl, .bl (!r), H1, I1, rfl, q⟩
      | next => exact False.elim hq
      | brk => exact False.elim hq
      | cont => exact False.elim hq

theorem spOf_E {K : PySem.W.Frag} {σ : L2.St} {δ : Env} {Hb H H0 : Hp} {fi : FI} {x y : R} {v u : V} {b : Bool} {δ' : Env} (g : Good K N σ δ Hb H) (rx : RR K N σ δ Hb H0 H v x) (ry : RR K N σ δ Hb H0 H u y) (h : callPure fi [x, y] δ = some (.ok (.dat (.bl b)) δ'))
    {Q : VK} {E : XK} (q : ∀ H', Ex H H' → Q (.bl b) H') : spOf K N fi [v, u] H Q E := by
  obtain ⟨d, e, _, z⟩ := callPure_ok g (.cons rx (.cons ry .nil)) h
  cases e
  refine z Q E fun w H' ex hr => ?_
  have := hr H'
  cases this
  exact q H' ex
/-- not a set display -/
def noSet : Expr → Bool
  | .Set _ _ _ => false
  | _ => true
theorem noSet_mark {op : CmpOp} {b : Expr} (h : noSet b = true) : behindInMarks op b = false := by
  cases b <;> first | rfl | cases h
/-- as a value, and as a test -/
def CJ (N : Nm) (X : Cx) (e : Expr) (m : M R) : Prop :=
  ∀ δ res, m δ = some res → ∀ (W : WX) σ Hb H Q, Takes X W → Good X.K N σ δ Hb H → EPost X.K N W σ δ Hb H Q res → ∃ t, (PE X e t ∧ PT X e (tTest t)) ∧ t σ H Q
theorem CJ.ej {e : Expr} {m : M R} (h : CJ N X e m) : EJ N X e m := fun δ res h1 W σ Hb H Q tk g post => let ⟨_, a, b⟩ := h δ res h1 W σ Hb H Q tk g post; cE_of a.1 b
theorem CJ.tj {e : Expr} {m : M R} (h : CJ N X e m) : TJ N X e (tst m) := by
  intro δ res h1 W σ Hb H Q tk g post
  rcases tst_cases h1 with ⟨r, b, δ', e1, v, rfl⟩ | ⟨c, fs, δ', e1, rfl⟩
  · obtain ⟨t, a, z⟩ := h δ _ e1 W σ Hb H (fun x H' => ∃ k, x = .bl k ∧ Q k H') tk g fun v' Hb1 H1 s1 g1 r1 => ⟨b, (g1.vw r1 v).bl, post Hb1 H1 s1 g1⟩
    exact cT_of a.2 z
  · obtain ⟨t, a, z⟩ := h δ _ e1 W σ Hb H (fun x H' => ∃ k, x = .bl k ∧ Q k H') tk g post
    exact cT_of a.2 z
def cmpP {op : CmpOp} {r : R2} {a b : Expr} {ta tb : TE} (ho : OpR X (compareOp op) r) (ha : PE X a ta) (hb : PE X b tb) (hm : behindInMarks op b = false) : PE X (.Compare a [op] [b] pos) (tOp r ta tb) ∧ PT X (.Compare a [op] [b] pos) (tTest (tOp r ta tb)) := ⟨pe_cmpR ho ha hb hm, pt_cmpR ho ha hb hm⟩
def cmpQ {op : CmpOp} {t : TE} {a b : Expr} (h : PC X op a b t) (h1 : behindInMarks op b = false) : PE X (.Compare a [op] [b] pos) t ∧ PT X (.Compare a [op] [b] pos) (tTest t) := ⟨pe_cmp h h1, pt_cmp h h1⟩
theorem cj_cmp (o : XOk X k Ns sc N cf) {a b : Expr} {op : CO} {ma mb : M R} (hs : noSet b = true) (ha : EJ N X a ma) (hb : EJ N X b mb) :
    CJ N X (.Compare a [opC op] [b] pos) (M.bnd ma fun x => M.bnd mb fun y => cmpR cf op x y) := by
  have hmk : behindInMarks (opC op) b = false := noSet_mark hs
  intro δ0 res0 h0 W0 σ0 Hb0 H0 Q0 tk0 g0 post0
  refine two_g (P := fun t => PE X (.Compare a [opC op] [b] pos) t ∧ PT X (.Compare a [opC op] [b] pos) (tTest t)) ha hb _ (fun x y δ res h => ?_) (fun _ _ _ _ _ _ => cmpR_noex) ⟨_, cmpP (r := fun _ _ _ _ => False) (fun _ _ _ _ _ _ _ _ _ _ _ _ z => z.elim) (pe_c a) (pe_c b) hmk⟩ h0 tk0 g0 post0
  unfold cmpR at h
  split at h
  · rename_i c fs e hx hy
    split at h
    · rename_i fi hf hcase
      have C : ∃ C, N.cls c = some C := let ⟨C, _, hC, _⟩ := o.tab.mth c _ fi hf; ⟨C, hC⟩
      obtain ⟨C, hC⟩ := C
      have typ : ∀ {σ : L2.St} {Hb H Hy : Hp} {u : V}, Good X.K N σ δ Hb H → RR X.K N σ δ Hb Hy H u y → ∃ b', u = .ref b' ∧ ((∃ dy gs, H b' = some (.ins C dy gs)) ∨ ∃ ys, H b' = some (.lst ys)) := fun {σ Hb H Hy u} g ry => by
        have hv := g.vw ry hy
        cases e with
        | ins c' gs =>
          have ec : c' = c := of_decide_eq_true hcase
          subst ec
          obtain ⟨p, C', dx, xs, rfl, hp, hC', _⟩ := hv.ins g.ex
          rw [hC] at hC'
          cases hC'
          exact ⟨p, rfl, .inl ⟨dx, xs, hp⟩⟩
        | lst l =>
          obtain ⟨p, xs, rfl, hp, _⟩ := hv.lst g.ex
          exact ⟨p, rfl, .inr ⟨xs, hp⟩⟩
        | _ => cases hcase
      split at h
      · rename_i b' δ2 hcall
        cases (Option.some.inj h)
        refine ⟨_, cmpP (op := .Eq) (op_eqO o hf hC) (pe_c a) (pe_c b) hmk, fun W σ Hb H v u Q Hx Hy tk g rx ry _ post => ?_⟩
        obtain ⟨p, C', dx, xs, rfl, hp, hC', _⟩ := (g.vw rx hx).ins g.ex
        rw [hC] at hC'
        cases hC'
        obtain ⟨q, rfl, hq⟩ := typ g ry
        refine ⟨p, dx, xs, q, rfl, hp, rfl, hq, spOf_E g (rx.base (H0 := fun _ => none) fun _ z => (z rfl).elim) (ry.base (H0 := fun _ => none) fun _ z => (z rfl).elim) hcall fun H' ex => ⟨b', rfl, ?_⟩⟩
        exact post _ Hb H' (Stp.grow ex) (g.grow ex) (.bl _)
      · rename_i b' δ2 hcall
        cases (Option.some.inj h)
        refine ⟨_, cmpP (op := .NotEq) (op_neO o hf hC) (pe_c a) (pe_c b) hmk, fun W σ Hb H v u Q Hx Hy tk g rx ry _ post => ?_⟩
        obtain ⟨p, C', dx, xs, rfl, hp, hC', _⟩ := (g.vw rx hx).ins g.ex
        rw [hC] at hC'
        cases hC'
        obtain ⟨q, rfl, hq⟩ := typ g ry
        refine ⟨p, dx, xs, q, rfl, hp, rfl, hq, spOf_E g (rx.base (H0 := fun _ => none) fun _ z => (z rfl).elim) (ry.base (H0 := fun _ => none) fun _ z => (z rfl).elim) hcall fun H' ex => ⟨b', rfl, ?_⟩⟩
        exact post _ Hb H' (Stp.grow ex) (g.grow ex) (.bl _)
      · cases h
    · cases h
  · rename_i l1 l2 hx hy
    have hu65 : X.A.units + 65 < cLine := by have := o.room.un; omega
    split at h
    · obtain ⟨b', hc, rfl⟩ := map_some h
      refine ⟨_, cmpP (op := .Eq) (op_eqK hu65) (pe_c a) (pe_c b) hmk, fun W σ Hb H v u Q Hx Hy tk g rx ry _ post => ?_⟩
      obtain ⟨p, xs, rfl, hp, rp⟩ := (g.vw rx hx).dct g.ex
      obtain ⟨q, ys, rfl, hq, rq⟩ := (g.vw ry hy).dct g.ex
      obtain ⟨r', h1, h2⟩ := eqDct_hits (rp.mono g.ex) (rq.mono g.ex) hc
      refine ⟨p, q, xs, ys, r', rfl, rfl, hp, hq, h1, ?_⟩
      rw [h2]
      exact post _ Hb H Stp.refl g (.bl _)
    · obtain ⟨b', hc, rfl⟩ := map_some h
      refine ⟨_, cmpP (op := .NotEq) (op_neK hu65) (pe_c a) (pe_c b) hmk, fun W σ Hb H v u Q Hx Hy tk g rx ry _ post => ?_⟩
      obtain ⟨p, xs, rfl, hp, rp⟩ := (g.vw rx hx).dct g.ex
      obtain ⟨q, ys, rfl, hq, rq⟩ := (g.vw ry hy).dct g.ex
      obtain ⟨r', h1, h2⟩ := eqDct_hits (rp.mono g.ex) (rq.mono g.ex) hc
      refine ⟨p, q, xs, ys, r', rfl, rfl, hp, hq, h1, ?_⟩
      rw [h2]
      exact post _ Hb H Stp.refl g (.bl _)
    · cases h
  · rename_i d e hni hnd hx hy
    obtain ⟨b', hc, rfl⟩ := map_some h
    by_cases hdc : ∃ l, e = .dct l
    · obtain ⟨l, rfl⟩ := hdc
      cases op with
      | inn =>
        have hc' : (keyD d).map (fun k => (getK l k).isSome) = some b' := by
          cases d <;> first | exact hc | cases hc
        obtain ⟨key, hk, rfl⟩ := map_some hc'
        refine ⟨fun y x H Q => ∃ a o, x = .ref a ∧ DGet H a y o ∧ Q (.bl o.isSome) H, cmpQ (pc_din o.hu (pe_c a) (pe_c b)) hmk, fun W σ Hb H v u Q Hx Hy tk g rx ry _ post => ?_⟩
        obtain ⟨p, xs, rfl, hp, rp⟩ := (g.vw ry hy).dct g.ex
        cases keyD_v (g.vw rx hx) hk
        refine ⟨p, _, rfl, DGet.k (k := key) hp, ?_⟩
        rw [rp.isSome key]
        exact post _ Hb H Stp.refl g (.bl _)
      | nin =>
        have hc' : (keyD d).map (fun k => !(getK l k).isSome) = some b' := by
          cases d <;> first | exact hc | cases hc
        obtain ⟨key, hk, rfl⟩ := map_some hc'
        refine ⟨fun y x H Q => ∃ a o, x = .ref a ∧ DGet H a y o ∧ Q (.bl (!o.isSome)) H, cmpQ (pc_dnotin o.hu (pe_c a) (pe_c b)) hmk, fun W σ Hb H v u Q Hx Hy tk g rx ry _ post => ?_⟩
        obtain ⟨p, xs, rfl, hp, rp⟩ := (g.vw ry hy).dct g.ex
        cases keyD_v (g.vw rx hx) hk
        refine ⟨p, _, rfl, DGet.k (k := key) hp, ?_⟩
        rw [rp.isSome key]
        exact post _ Hb H Stp.refl g (.bl _)
      | eq => exact absurd hc (by unfold cmpD eqD; simp [toPy])
      | ne => exact absurd hc (by unfold cmpD eqD; simp [toPy, notO])
      | lt => cases d <;> cases hc
      | le => cases d <;> cases hc
      | gt => cases d <;> cases hc
      | ge => cases d <;> cases hc
      | is => cases d <;> cases hc
      | isn => cases d <;> cases hc
    · obtain ⟨rd, ho, hrd⟩ := cmpD_ok (X := X) (N := N) o.room.units hc (fun l z => hdc ⟨l, z⟩)
      exact ⟨rd, cmpP ho (pe_c a) (pe_c b) hmk, fun W σ Hb H v u Q Hx Hy tk g rx ry _ post => hrd σ δ Hb H v u Q g (g.vw rx hx) (g.vw ry hy) post⟩
  · cases h
end
end Rl

set_option Elab.async false
set_option linter.all false
set_option maxRecDepth 100000
set_option maxHeartbeats 4000000
/-! Lay O: further expressions. -/
namespace Rl
open PySem L2
section
variable {X : Cx} {k : Nat} {Ns : List Str} {sc : Scope} {N : Nm} {cf : Cfg} {pos : Pos}
/-- the operation is no membership -/
def noIn : CO → Bool
  | .inn => false
  | .nin => false
  | _ => true
theorem cmpD_nodct {o : CO} {d : D} {l : List (Key × D)} {b : Bool} (h : cmpD o d (.dct l) = some b) (hn : noIn o = true) : False := by
  cases o with
  | inn => cases hn
  | nin => cases hn
  | eq => exact absurd h (by unfold cmpD eqD; simp [toPy])
  | ne => exact absurd h (by unfold cmpD eqD; simp [toPy, notO])
  | lt => cases d <;> cases h
  | le => cases d <;> cases h
  | gt => cases d <;> cases h
  | ge => cases d <;> cases h
  | is => cases d <;> cases h
  | isn => cases d <;> cases h
def r0 : R2 := fun _ _ _ _ => False
theorem op_r0 {f : Value → Value → Sem Value} : OpR X f r0 := fun _ _ _ _ _ _ _ _ _ _ _ _ z => z.elim
theorem bl_of {K : PySem.W.Frag} {σ : L2.St} {δ : Env} {Hb H0 H : Hp} {v : V} {b : Bool} (h : RR K N σ δ Hb H0 H v (.dat (.bl b))) : v = .bl b := by cases (show Rep K N Hb v (.bl b) from h); rfl
theorem cj_chn (o : XOk X k Ns sc N cf) {a b c : Expr} {op op' : CO} {ma mb mc : M R} (h1 : noIn op = true) (h2 : noIn op' = true) (hs : noSet c = true) (ha : EJ N X a ma) (hb : EJ N X b mb) (hc : EJ N X c mc) :
    CJ N X (.Compare a [opC op, opC op'] [b, c] pos) (M.bnd ma fun x => M.bnd mb fun y => M.bnd (look2 x y (cmpD op)) fun k => if k then M.bnd mc fun z => M.bnd (look2 y z (cmpD op')) fun k => M.ret (.dat (.bl k)) else M.ret (.dat (.bl false))) := by
  have hm : lastMarks [opC op, opC op'] [b, c] = false := noSet_mark hs
  have pp : ∀ {r r' : R2}, OpR X (compareOp (opC op)) r → OpR X (compareOp (opC op')) r' → PE X (.Compare a [opC op, opC op'] [b, c] pos) (tChain r r' (cE X a) (cE X b) (cE X c)) ∧ PT X (.Compare a [opC op, opC op'] [b, c] pos) (tTest (tChain r r' (cE X a) (cE X b) (cE X c))) :=
    fun p q => ⟨pe_chain p q (pe_c a) (pe_c b) (pe_c c) hm, pt_chain p q (pe_c a) (pe_c b) (pe_c c) hm⟩
  intro δ res h W σ Hb H Q tk g post
  rcases M.bnd_ok h with ⟨x, δ1, e1, h⟩ | ⟨c', fs, δ1, e1, rfl⟩
  · rcases M.bnd_ok h with ⟨y, δ2, e2, h⟩ | ⟨c', fs, δ2, e2, rfl⟩
    · rcases M.bnd_ok h with ⟨t, δ3, e3, h⟩ | ⟨c', fs, δ3, e3, rfl⟩
      · obtain ⟨d, e, t', v1, v2, hd, q3⟩ := look2_ok e3
        cases q3
        obtain ⟨rd, ho, hrd⟩ := cmpD_ok (X := X) (N := N) o.room.units hd fun l z => by subst z; exact cmpD_nodct hd h1
        cases t with
        | false =>
          cases (Option.some.inj h)
          refine ⟨_, pp ho op_r0, ha δ _ e1 W σ Hb H _ tk g fun v Hb1 H1 s1 g1 r1 => hb δ1 _ e2 W σ Hb1 H1 _ tk g1 fun u Hb2 H2 s2 g2 r2 => ?_⟩
          refine hrd σ δ2 Hb2 H2 v u _ g2 (g2.vw (r1.keep s2) v1) (g2.vw r2 v2) fun v' Hb3 H3 s3 g3 r3 => ⟨false, bl_of r3, ?_⟩
          exact post (.bl false) Hb3 H3 ((s1.trans s2).trans s3) g3 (.bl false)
        | true =>
          have h : M.bnd mc (fun z => M.bnd (look2 y z (cmpD op')) fun k => M.ret (.dat (.bl k))) δ2 = some res := h
          rcases M.bnd_ok h with ⟨z, δ4, e4, h⟩ | ⟨c', fs, δ4, e4, rfl⟩
          · rcases M.bnd_ok h with ⟨t2, δ5, e5, h⟩ | ⟨c', fs, δ5, e5, rfl⟩
            · obtain ⟨d', e', t3, v3, v4, hd', q5⟩ := look2_ok e5
              cases q5
              cases (Option.some.inj h)
              obtain ⟨rd', ho', hrd'⟩ := cmpD_ok (X := X) (N := N) o.room.units hd' fun l z => by subst z; exact cmpD_nodct hd' h2
              refine ⟨_, pp ho ho', ha δ _ e1 W σ Hb H _ tk g fun v Hb1 H1 s1 g1 r1 => hb δ1 _ e2 W σ Hb1 H1 _ tk g1 fun u Hb2 H2 s2 g2 r2 => ?_⟩
              refine hrd σ δ2 Hb2 H2 v u _ g2 (g2.vw (r1.keep s2) v1) (g2.vw r2 v2) fun v' Hb3 H3 s3 g3 r3 => ⟨true, bl_of r3, ?_⟩
              refine hc δ2 _ e4 W σ Hb3 H3 _ tk g3 fun w' Hb4 H4 s4 g4 r4 => ?_
              refine hrd' σ δ4 Hb4 H4 u w' _ g4 (g4.vw ((r2.keep s3).keep s4) v3) (g4.vw r4 v4) fun v2' Hb5 H5 s5 g5 r5 => ?_
              exact post v2' Hb5 H5 ((((s1.trans s2).trans s3).trans s4).trans s5) g5 r5
            · exact absurd e5 look2_noex
          · refine ⟨_, pp ho op_r0, ha δ _ e1 W σ Hb H _ tk g fun v Hb1 H1 s1 g1 r1 => hb δ1 _ e2 W σ Hb1 H1 _ tk g1 fun u Hb2 H2 s2 g2 r2 => ?_⟩
            refine hrd σ δ2 Hb2 H2 v u _ g2 (g2.vw (r1.keep s2) v1) (g2.vw r2 v2) fun v' Hb3 H3 s3 g3 r3 => ⟨true, bl_of r3, ?_⟩
            exact hc δ2 _ e4 W σ Hb3 H3 _ tk g3 (post.exL ((s1.trans s2).trans s3))
      · exact absurd e3 look2_noex
    · exact ⟨_, pp op_r0 op_r0, ha δ _ e1 W σ Hb H _ tk g fun v Hb1 H1 s1 g1 r1 => hb δ1 _ e2 W σ Hb1 H1 _ tk g1 (post.exL s1)⟩
  · exact ⟨_, pp op_r0 op_r0, ha δ _ e1 W σ Hb H _ tk g post⟩

/-! ### isinstance -/
def tyNm : Ty → Str
  | .int => "int" | .bool => "bool" | .str => "str" | .tuple => "tuple" | .list => "list" | .dict => "dict" | .cls c => c
theorem kit_all {a b : String} (ha : a ∈ tyNames) {t : Ty} (hb : tyN t = some b) : kitB a b = some (decide (a = b) || (decide (a = "bool") && decide (b = "int"))) := by
  have key : ∀ a ∈ tyNames, ∀ b ∈ (["int", "bool", "str", "tuple", "list", "dict"] : List String), kitB a b = some (decide (a = b) || (decide (a = "bool") && decide (b = "int"))) := by decide +kernel
  refine key a ha b ?_
  cases t <;> cases hb <;> decide
theorem tyD_mem {d : D} {a : String} (h : tyD d = some a) : a ∈ tyNames := by
  cases d <;> cases h <;> decide
theorem Vw.ty {K : PySem.W.Frag} {Hb H : Hp} {v : V} {d : D} {a : String} (x : Ex Hb H) (h : Vw K N Hb H v d) (e : tyD d = some a) : TyX K H v (.type a) := by
  cases d <;> cases e
  · cases h.non; exact .base .non
  · cases h.bl; exact .base (.bl _)
  · cases h.int; exact .base (.int _)
  · cases h.str; exact .base (.str _)
  · obtain ⟨p, xs, rfl, hp, _⟩ := h.tup x; exact .base (.tup hp)
  · obtain ⟨p, xs, rfl, hp, _⟩ := h.lst x; exact .base (.lst hp)
  · obtain ⟨p, xs, rfl, hp, _⟩ := h.dct x; exact .base (.dK hp)
  · obtain ⟨p, xs, rfl, hp, _⟩ := h.dtt x; exact .base (.dT hp)
/-- the class's name stands for the class -/
def TyOkN (X : Cx) (N : Nm) (cf : Cfg) (t : Ty) : Prop := match t with
  | .cls c => ∃ C, N.cls c = some C ∧ (cf.flds c).isSome = true
  | _ => True
theorem ej_isi (o : XOk X k Ns sc N cf) {a : Expr} {ma : M R} {t : Ty} {p p2 : Pos} (hs : noStar a = true) (hg : glB sc "isinstance" = true) (ht : glB sc (tyNm t) = true) (hd : (tyNm t == ("__debug__" : Str)) = false) (hok : TyOkN X N cf t) (ha : EJ N X a ma) :
    EJ N X (.Call (.Name "isinstance" p) [a, .Name (tyNm t) p2] [] pos) (M.bnd ma fun x => look x fun d => (isiD d t).map fun b => .dat (.bl b)) := by
  have hm : X.mg "isinstance" = none := o.tab.blt _ (by decide)
  have hty : ∃ c u, ClsV c u ∧ PE X (.Name (tyNm t) p2) (tC c) ∧ (∀ b, tyN t = some b → u = .type b) ∧ (∀ n, t = .cls n → ∃ C, N.cls n = some C ∧ (cf.flds n).isSome = true ∧ u = .ref C) := by
    cases t with
    | cls n =>
      obtain ⟨C, hC, hf⟩ := hok
      obtain ⟨hmg, _⟩ := o.tab.isi n C hC hf
      exact ⟨.ref C, .ref C, .own C, pe_glob (o.gl ht) hmg rfl hd, (fun b z => nomatch z), fun n' z => by cases z; exact ⟨C, hC, hf, rfl⟩⟩
    | int => exact ⟨.ty "int", _, .ty "int", pe_bltn (o.gl ht) (o.tab.blt _ (by decide)) PyProof.Rows.boot_int rfl (by decide) (by decide), (fun b z => by cases z; rfl), fun n z => nomatch z⟩
    | bool => exact ⟨.ty "bool", _, .ty "bool", pe_bltn (o.gl ht) (o.tab.blt _ (by decide)) (by decide +kernel) rfl (by decide) (by decide), (fun b z => by cases z; rfl), fun n z => nomatch z⟩
    | str => exact ⟨.ty "str", _, .ty "str", pe_bltn (o.gl ht) (o.tab.blt _ (by decide)) PyProof.Rows.boot_str rfl (by decide) (by decide), (fun b z => by cases z; rfl), fun n z => nomatch z⟩
    | tuple => exact ⟨.ty "tuple", _, .ty "tuple", pe_bltn (o.gl ht) (o.tab.blt _ (by decide)) PyProof.Rows.boot_tuple rfl (by decide) (by decide), (fun b z => by cases z; rfl), fun n z => nomatch z⟩
    | list => exact ⟨.ty "list", _, .ty "list", pe_bltn (o.gl ht) (o.tab.blt _ (by decide)) PyProof.Rows.boot_list rfl (by decide) (by decide), (fun b z => by cases z; rfl), fun n z => nomatch z⟩
    | dict => exact ⟨.ty "dict", _, .ty "dict", pe_bltn (o.gl ht) (o.tab.blt _ (by decide)) PyProof.Rows.boot_dict rfl (by decide) (by decide), (fun b z => by cases z; rfl), fun n z => nomatch z⟩
  obtain ⟨c, u, hcv, hpe, hu1, hu2⟩ := hty
  have hp : PE X (.Call (.Name "isinstance" p) [a, .Name (tyNm t) p2] [] pos) (tCB (rIsi X.K) (tCons (cE X a) (tCons (tC c) tNil))) :=
    pe_callB call_isi (o.gl hg) hm PyProof.Rows.boot_isinstance (pa_cons (pe_c a) (pa_cons hpe pa_nil) (star_ok hs)) (by decide) (by decide) (star_ok hs)
  intro δ res h W σ Hb H Q tk g post
  rcases M.bnd_ok h with ⟨x, δ1, e1, h2⟩ | ⟨c', fs, δ1, e1, rfl⟩
  · obtain ⟨d, r, v1, hr, rfl⟩ := look_ok h2
    obtain ⟨b, hb, rfl⟩ := map_some hr
    refine cE_of hp (ha δ _ e1 W σ Hb H _ tk g fun v Hb1 H1 s1 g1 r1 => ?_)
    have hv := g1.vw r1 v1
    have fin : ∀ ty, TyX X.K H1 v ty → PySem.W.kitOne X.K ty u = some b → rIsi X.K [v, c] H1 Q := fun ty h1 h2 => ⟨v, c, ty, u, b, rfl, hcv, h1, h2, post (.bl b) Hb1 H1 s1 g1 (.bl b)⟩
    show rIsi X.K [v, c] H1 Q
    unfold isiD at hb
    split at hb
    · rename_i c1 fs c2
      split at hb
      · rename_i ec
        cases hb
        subst ec
        obtain ⟨C, hC, hf, rfl⟩ := hu2 _ rfl
        obtain ⟨_, k1, _, k3, k4, k5, k6⟩ := o.tab.isi _ C hC hf
        obtain ⟨q, C', dx, xs, rfl, hq, hC', _⟩ := hv.ins g1.ex
        rw [hC] at hC'
        cases hC'
        exact fin _ (.base (.ins hq (o.tab.cls _ C hC hf) k3 k4 k5 k6)) k1
      · cases hb
    · split at hb
      · rename_i tn htn
        cases hb
        obtain ⟨C, hC, hf, rfl⟩ := hu2 _ rfl
        obtain ⟨_, _, k2, _⟩ := o.tab.isi _ C hC hf
        exact fin _ (hv.ty g1.ex htn) (k2 _ (tyD_mem htn))
      · cases hb
    · split at hb
      · rename_i tn t2 htn ht2
        cases hb
        cases hu1 _ ht2
        exact fin _ (hv.ty g1.ex htn) (kit_ty (kit_all (tyD_mem htn) ht2))
      · cases hb
  · exact cE_of hp (ha δ _ e1 W σ Hb H _ tk g post)

/-! ### an owned thing changes -/
theorem Good.chg {K : PySem.W.Frag} {σ : L2.St} {δ : Env} {Hb H : Hp} (g : Good K N σ δ Hb H) {i : Nat} {d d' : D} (h : δ[i]? = some (some (.own d))) {p : Addr} (hp : σ[i]? = some (some (.ref p))) {o' : HO} (c : Cnt K N Hb o' d') :
    Good K N σ (δ.set i (some (.own d'))) Hb (upd H p o') ∧ Stp σ δ Hb H σ (δ.set i (some (.own d'))) Hb (upd H p o') := by
  obtain ⟨p', o, h1, h2, h3, _⟩ := g.own i d h
  rw [hp] at h1
  cases h1
  have hown : Own σ δ p := ⟨i, d, h, hp⟩
  refine ⟨⟨?_, fun j e q => ?_, fun j e q => ?_, fun j k a e f n q1 q2 => ?_, ?_⟩, ⟨Ex.refl _, fun a q _ => .inl q, fun a u q n => ?_, fun a q => ?_, fun a ⟨j, e, q1, q2⟩ => ?_⟩⟩
  · exact Ex.mut g.ex h2
  · rcases set_get q with ⟨_, z, _⟩ | ⟨_, z⟩
    · cases z
    · exact g.dat j e z
  · rcases set_get q with ⟨rfl, z, _⟩ | ⟨n, z⟩
    · cases z; exact ⟨p, o', hp, h2, upd_same, c⟩
    · obtain ⟨q', u, a, b, c', f⟩ := g.own j e z
      refine ⟨q', u, a, b, ?_, f⟩
      rw [upd_ne]
      · exact c'
      · rintro rfl
        exact g.sep i j q' d e n h z hp a
  · have back : ∀ {j : Nat} {e : D}, (δ.set i (some (.own d')))[j]? = some (some (.own e)) → ∃ e', δ[j]? = some (some (.own e')) := fun {j e} q => by
      rcases set_get q with ⟨rfl, _, _⟩ | ⟨_, z⟩
      · exact ⟨_, h⟩
      · exact ⟨_, z⟩
    obtain ⟨e', q1'⟩ := back q1
    obtain ⟨f', q2'⟩ := back q2
    exact g.sep j k a e' f' n q1' q2'
  · rw [List.length_set]; exact g.len
  · rw [upd_ne]
    · exact q
    · rintro rfl
      exact n hown
  · by_cases z : a = p
    · subst z; rw [upd_same]; simp
    · rw [upd_ne z]; exact q
  · rcases set_get q1 with ⟨rfl, _, _⟩ | ⟨_, z⟩
    · exact .inl ⟨i, d, h, q2⟩
    · exact .inl ⟨j, e, z, q2⟩
theorem RepL.dropLast {K : PySem.W.Frag} {Hb : Hp} : ∀ {vs : List V} {ds : List D}, RepL K N Hb vs ds → RepL K N Hb vs.dropLast ds.dropLast
  | _, _, .nil => .nil
  | _, _, .cons a .nil => .nil
  | _, _, .cons a (.cons b c) => .cons a (RepL.dropLast (.cons b c))
theorem ej_pop (o : XOk X k Ns sc N cf) {i : Nat} {x : Str} {p apos : Pos} (hi : Ns[i]? = some x) (hv : visB sc x = true) (h1 : (x == ("__debug__" : Str)) = false) (h2 : (x == ("__classdict__" : Str)) = false) (hl : (apos.endLine == pos.line) = true) :
    EJ N X (.Call (.Attribute (.Name x p) "pop" apos) [] [] pos) (evE cf (.pop i)) := by
  have hp : PE X (.Call (.Attribute (.Name x p) "pop" apos) [] [] pos) (tBM0 X.K "list" rPop (tVar i)) :=
    pe_bm0 PySem.F.plainAttrs_list PySem.F.slot_list_pop PySem.F.type_list_pop mt_pop (pe_var (o.ix hi) (o.vis hv) h1 h2) (base_ok rfl) hl
  intro δ res h W σ Hb H Q tk g post
  unfold evE at h
  split at h
  · rename_i l hq
    split at h
    · rename_i d hlast
      cases (Option.some.inj h)
      obtain ⟨a, ob, e1, e2, e3, cc⟩ := g.own i _ hq
      cases cc with
      | @lst xs _ r =>
        have hlen := RepL.length r
        rw [List.getLast?_eq_getElem?] at hlast
        obtain ⟨v, hv', rv⟩ := r.get hlast
        rw [← hlen] at hv'
        refine cE_of hp ⟨_, e1, .inl ⟨rfl, xs, .of e3⟩, a, xs, v, rfl, rfl, e3, hv', ?_⟩
        obtain ⟨g', s'⟩ := g.chg hq e1 (o' := .lst xs.dropLast) (d' := .lst l.dropLast) (.lst r.dropLast)
        exact post v Hb _ s' g' rv
    · cases h
  · cases h

/-! ### dicts written out -/
theorem ej_dnt : EJ N X (.Dict [] [] pos) (M.ret (.own (.dtt []))) := by
  intro δ res h W σ Hb H Q tk g post
  cases (Option.some.inj h)
  exact cE_of pe_dnewT fun p hp => fin_own g hp (.dtt .nil) post
def trsOf (X : Cx) : List (Expr × Expr) → List (TE × TE)
  | [] => []
  | (a, b) :: r => (cE X a, cE X b) :: trsOf X r
theorem pps_c : ∀ (ps : List (Expr × Expr)), PPs X pos (ps.map fun p => some p.1) (ps.map (·.2)) (trsOf X ps)
  | [] => pps_nil
  | (a, b) :: r => pps_cons (pe_c a) (pe_c b) (pps_c r)
def KPost (K : PySem.W.Frag) (N : Nm) (W : WX) (σ : L2.St) (δ : Env) (Hb H : Hp) (Q : List (V × V) → Hp → Prop) : Res (List (Key × D)) → Prop
  | .ok r δ' => ∀ (xs : List (Key × V)) Hb' H', Stp σ δ Hb H σ δ' Hb' H' → Good K N σ δ' Hb' H' → RepK K N Hb' xs r → Q (xs.map fun kv => (kV kv.1, kv.2)) H'
  | .ex c fs δ' => ∀ cv dd Hb' H', Stp σ δ Hb H σ δ' Hb' H' → Good K N σ δ' Hb' H' → XR K N Hb' cv dd c fs → W cv dd σ H'
def KJ (N : Nm) (X : Cx) (ps : List (Expr × Expr)) (m : M (List (Key × D))) : Prop :=
  ∀ δ res, m δ = some res → ∀ (W : WX) σ Hb H Q, Takes X W → Good X.K N σ δ Hb H → KPost X.K N W σ δ Hb H Q res → tPairs (trsOf X ps) σ H Q
theorem kj_nil : KJ N X [] (M.ret []) := fun δ res h W σ Hb H Q tk g post => by
  cases (Option.some.inj h)
  exact post [] Hb H Stp.refl g .nil
theorem kj_cons {a b : Expr} {ps : List (Expr × Expr)} {ma mb : M R} {ms : M (List (Key × D))} (ha : EJ N X a ma) (hb : EJ N X b mb) (hr : KJ N X ps ms) :
    KJ N X ((a, b) :: ps) (M.bnd ma fun x => M.bnd mb fun y => M.bnd (look x keyD) fun k => M.bnd (give y) fun d => M.bnd ms fun r => M.ret ((k, d) :: r)) := by
  intro δ res h W σ Hb H Q tk g post
  rcases M.bnd_ok h with ⟨x, δ1, e1, h⟩ | ⟨c, fs, δ1, e1, rfl⟩
  · rcases M.bnd_ok h with ⟨y, δ2, e2, h⟩ | ⟨c, fs, δ2, e2, rfl⟩
    · rcases M.bnd_ok h with ⟨key, δ3, e3, h⟩ | ⟨c, fs, δ3, e3, rfl⟩
      · obtain ⟨d, key', v1, hk, q3⟩ := look_ok e3
        cases q3
        rcases M.bnd_ok h with ⟨d2, δ4, e4, h⟩ | ⟨c, fs, δ4, e4, rfl⟩
        · refine ha δ _ e1 W σ Hb H _ tk g fun v Hb1 H1 s1 g1 r1 => hb δ1 _ e2 W σ Hb1 H1 _ tk g1 fun u Hb2 H2 s2 g2 r2 => ?_
          cases keyD_v (g2.vw (r1.keep s2) v1) hk
          obtain ⟨d', δ4', Hb4, q4, s4, g4, r4, x4, _⟩ := g2.give (s1.trans s2) (r2.base (s1).dom) e4
          cases q4
          rcases M.bnd_ok h with ⟨r, δ5, e5, h⟩ | ⟨c, fs, δ5, e5, rfl⟩
          · cases (Option.some.inj h)
            refine hr δ4 _ e5 W σ Hb4 H2 _ tk g4 fun xs Hb5 H5 s5 g5 r5 => ?_
            exact post ((key, u) :: xs) Hb5 H5 (s4.trans s5) g5 (.cons (r4.mono s5.hb) r5)
          · exact hr δ4 _ e5 W σ Hb4 H2 _ tk g4 fun cv dd Hb5 H5 s5 g5 r5 => post cv dd Hb5 H5 (s4.trans s5) g5 r5
        · refine ha δ _ e1 W σ Hb H _ tk g fun v Hb1 H1 s1 g1 r1 => hb δ1 _ e2 W σ Hb1 H1 _ tk g1 fun u Hb2 H2 s2 g2 r2 => ?_
          obtain ⟨_, _, _, q4, _⟩ := g2.give (s1.trans s2) (r2.base s1.dom) e4
          cases q4
      · obtain ⟨_, _, _, _, z⟩ := look_ok e3
        cases z
    · exact ha δ _ e1 W σ Hb H _ tk g fun v Hb1 H1 s1 g1 r1 => hb δ1 _ e2 W σ Hb1 H1 _ tk g1 fun cv dd Hb2 H2 s2 g2 r2 => post cv dd Hb2 H2 (s1.trans s2) g2 r2
  · exact ha δ _ e1 W σ Hb H _ tk g post
theorem RepK.anyK {K : PySem.W.Frag} {Hb : Hp} (key : Key) : ∀ {xs : List (Key × V)} {ds : List (Key × D)}, RepK K N Hb xs ds → (xs.any fun kv => decide (kv.1 = key)) = (ds.any fun kv => decide (kv.1 = key))
  | _, _, .nil => rfl
  | _, _, .cons _ b => by rw [List.any_cons, List.any_cons, RepK.anyK key b]
theorem RepK.repl {K : PySem.W.Frag} {Hb : Hp} {key : Key} {v : V} {d : D} (hv : Rep K N Hb v d) : ∀ {xs : List (Key × V)} {ds : List (Key × D)}, RepK K N Hb xs ds →
    RepK K N Hb (xs.map fun kv => if kv.1 = key then (kv.1, v) else kv) (ds.map fun kv => if kv.1 = key then (kv.1, d) else kv)
  | _, _, .nil => .nil
  | _, _, .cons (k := k') a b => by
    rw [List.map_cons, List.map_cons]
    by_cases q : k' = key
    · rw [if_pos q, if_pos q]; exact .cons hv (RepK.repl hv b)
    · rw [if_neg q, if_neg q]; exact .cons a (RepK.repl hv b)
theorem RepK.snoc {K : PySem.W.Frag} {Hb : Hp} {key : Key} {v : V} {d : D} (hv : Rep K N Hb v d) : ∀ {xs : List (Key × V)} {ds : List (Key × D)}, RepK K N Hb xs ds → RepK K N Hb (xs ++ [(key, v)]) (ds ++ [(key, d)])
  | _, _, .nil => .cons hv .nil
  | _, _, .cons a b => .cons a (RepK.snoc hv b)
theorem RepK.put {K : PySem.W.Frag} {Hb : Hp} {xs : List (Key × V)} {ds : List (Key × D)} {key : Key} {v : V} {d : D} (h : RepK K N Hb xs ds) (hv : Rep K N Hb v d) : RepK K N Hb (putK xs key v) (putKD ds key d) := by
  unfold putK putKD
  rw [h.anyK key]
  split
  · exact h.repl hv
  · exact h.snoc hv
theorem RepK.merge {K : PySem.W.Frag} {Hb : Hp} : ∀ {more : List (Key × V)} {md : List (Key × D)} {xs : List (Key × V)} {ds : List (Key × D)}, RepK K N Hb more md → RepK K N Hb xs ds → RepK K N Hb (mergeK xs more) (md.foldl (fun acc p => putKD acc p.1 p.2) ds)
  | _, _, _, _, .nil, h => h
  | _, _, _, _, .cons (vs := vs) (ds := ds) a b, h => RepK.merge (more := vs) (md := ds) b (RepK.put h a)
theorem evKV_len : ∀ {l : List (ME × ME)} {δ δ' : Env} {r : List (Key × D)}, evKV cf l δ = some (.ok r δ') → r.length = l.length
  | [], δ, δ', r, h => by unfold evKV at h; cases (Option.some.inj h); rfl
  | (a, b) :: l, δ, δ', r, h => by
    unfold evKV at h
    rcases M.bnd_ok h with ⟨_, _, _, h⟩ | ⟨_, _, _, _, z⟩
    · rcases M.bnd_ok h with ⟨_, _, _, h⟩ | ⟨_, _, _, _, z⟩
      · rcases M.bnd_ok h with ⟨_, _, _, h⟩ | ⟨_, _, _, _, z⟩
        · rcases M.bnd_ok h with ⟨_, _, _, h⟩ | ⟨_, _, _, _, z⟩
          · rcases M.bnd_ok h with ⟨r', _, e, h⟩ | ⟨_, _, _, _, z⟩
            · cases (Option.some.inj h)
              rw [List.length_cons, List.length_cons, evKV_len e]
            · cases z
          · cases z
        · cases z
      · cases z
    · cases z
theorem ej_dic0 : EJ N X (.Dict [] [] pos) (M.bnd (evKV cf []) fun kvs => M.ret (.own (.dct (kvs.foldl (fun acc p => putKD acc p.1 p.2) [])))) := by
  intro δ res h W σ Hb H Q tk g post
  have h' : some (Res.ok (R.own (.dct [])) δ) = some res := h
  cases (Option.some.inj h')
  exact cE_of pe_dnewK fun p hp => fin_own g hp (.dct .nil) post
theorem ej_dic {ps : List (Expr × Expr)} {l : List (ME × ME)} (h0 : ps ≠ []) (h15 : ps.length ≤ 15) (hl : l.length = ps.length) (hk : KJ N X ps (evKV cf l)) :
    EJ N X (.Dict (ps.map fun p => some p.1) (ps.map (·.2)) pos) (M.bnd (evKV cf l) fun kvs => M.ret (.own (.dct (kvs.foldl (fun acc p => putKD acc p.1 p.2) [])))) := by
  have hp : PE X (.Dict (ps.map fun p => some p.1) (ps.map (·.2)) pos) (tDisp (trsOf X ps)) :=
    pe_disp (pps_c ps) (by simp) (by simp) (by simpa using h0) (by simpa using h15)
  intro δ res h W σ Hb H Q tk g post
  refine cE_of hp fun p hp => ?_
  have g1 : Good X.K N σ δ Hb (upd H p (.dK [])) := g.laid hp
  have s1 : Stp σ δ Hb H σ δ Hb (upd H p (.dK [])) := Stp.laid hp
  have no : ¬ Own σ δ p := fun z => own_ltK g z hp
  rcases M.bnd_ok h with ⟨kvs, δ1, e1, h2⟩ | ⟨c, fs, δ1, e1, rfl⟩
  · cases (Option.some.inj h2)
    refine hk δ _ e1 W σ Hb _ _ tk g1 fun xs Hb2 H2 s2 g2 r2 => ?_
    have hH2 : H2 p = some (.dK []) := s2.frame p _ upd_same no
    have hb2 : Hb2 p = none := by
      rcases s2.fresh p (hb_none g hp) (by rw [upd_same]; simp) with z | z
      · exact z
      · exact absurd z no
    have no2 : ¬ Own σ δ1 p := fun z => by
      rcases s2.own p z with q | q
      · exact no q
      · rw [upd_same] at q; cases q
    refine ⟨hH2, xs, rfl, ?_, ?_⟩
    · have : xs.length = kvs.length := RepK.length r2
      rw [this, evKV_len e1, hl]
      exact h15
    · have c2 : Cnt X.K N Hb2 (.dK (mergeK [] xs)) (.dct (kvs.foldl (fun acc p => putKD acc p.1 p.2) [])) := .dct (r2.merge .nil)
      have ex3 : Ex Hb2 (upd H2 p (.dK (mergeK [] xs))) := Ex.mut g2.ex hb2
      refine post _ Hb2 _ ?_ ?_ ⟨p, _, rfl, hp, hb2, upd_same, c2, no2⟩
      · refine ⟨s2.hb, fun a q n => s2.fresh a q ?_, fun a u q n => ?_, fun a q => ?_, fun a q => ?_⟩
        · exact s1.dom a n
        · rw [upd_ne (ne_of_none q hp)]
          exact s2.frame a u (by rw [upd_ne (ne_of_none q hp)]; exact q) n
        · by_cases z : a = p
          · subst z; exact absurd hp q
          · rw [upd_ne z]; exact s2.dom a (by rw [upd_ne z]; exact q)
        · rcases s2.own a q with z | z
          · exact .inl z
          · by_cases y : a = p
            · subst y; exact .inr hp
            · rw [upd_ne y] at z; exact .inr z
      · refine ⟨ex3, g2.dat, fun i d q => ?_, g2.sep, g2.len⟩
        obtain ⟨a, u, e1, e2, e3, e4⟩ := g2.own i d q
        refine ⟨a, u, e1, e2, ?_, e4⟩
        rw [upd_ne]
        · exact e3
        · rintro rfl; exact no2 ⟨i, d, q, e1⟩
  · refine hk δ _ e1 W σ Hb _ _ tk g1 fun cv dd Hb2 H2 s2 g2 r2 => ?_
    exact post cv dd Hb2 H2 (s1.trans s2) g2 r2
end
end Rl

set_option Elab.async false
set_option linter.all false
set_option maxRecDepth 100000
set_option maxHeartbeats 4000000
/-! Lay P: methods of built-in things. -/
namespace Rl
open PySem L2
section
variable {X : Cx} {k : Nat} {Ns : List Str} {sc : Scope} {N : Nm} {cf : Cfg} {pos : Pos}
def rGetD : V → List V → Hp → VK → Prop := fun x xs H Q => ∃ a y z o, x = .ref a ∧ xs = [y, z] ∧ DGet H a y o ∧ Q (o.getD z) H
theorem mt_getD (hu : X.A.units + 1 < cLine) : MtR X "dict.get" rGetD := by
  intro pins s σ H x xs v us Q I rx rxs h
  obtain ⟨a, y, z, o, rfl, rfl, hd, q⟩ := h
  cases rx
  obtain ⟨u1, u2, rfl, r1, r2⟩ := rxs.two
  exact d_get2 hu I hd r1 r2 fun w' s4 I4 rw' => ⟨_, H, I4, rw', q⟩
def bmN : Bm → Str
  | .index => "index" | .get => "get" | .join => "join" | .split => "split" | .strip => "strip"
def bmT : Bm → String
  | .index => "list" | .get => "dict" | .join => "str" | .split => "str" | .strip => "str"
def bmI : Bm → String
  | .index => "list.index" | .get => "dict.get" | .join => "str.join" | .split => "str.split" | .strip => "str.strip"
theorem kind_ty {b : Bm} {d : D} {K : PySem.W.Frag} {Hb H : Hp} {v : V} (x : Ex Hb H) (h : Vw K N Hb H v d) (e : kindD b d = some ()) : tyV K (bmT b) v H := by
  cases b <;> cases d <;> first | cases e | skip
  · obtain ⟨p, xs, rfl, hp, _⟩ := h.lst x; exact .inl ⟨rfl, xs, .of hp⟩
  · obtain ⟨p, xs, rfl, hp, _⟩ := h.dct x; exact .inr (.inr (.inl ⟨rfl, .inl ⟨xs, hp⟩⟩))
  · obtain ⟨p, xs, rfl, hp, _⟩ := h.dtt x; exact .inr (.inr (.inl ⟨rfl, .inr ⟨xs, hp⟩⟩))
  · cases h.str; exact rfl
  · cases h.str; exact rfl
theorem RepL.strs {K : PySem.W.Frag} {Hb : Hp} : ∀ (ys : List Str), RepL K N Hb (ys.map V.str) (ys.map D.str)
  | [] => .nil
  | y :: ys => .cons (.str y) (RepL.strs ys)
theorem bmtD_ok (hu : X.A.units + 1 < cLine) {b : Bm} {d : D} {ds : List D} {r : R} (h : bmtD b d ds = some r) :
    ∃ rd, MtR X (bmI b) rd ∧ ∀ (σ : L2.St) (δ : Env) (Hb H : Hp) (v : V) (vs : List V) (Q : VK), Good X.K N σ δ Hb H → Vw X.K N Hb H v d → RepL X.K N Hb vs ds →
      (∀ v' Hb' H', Stp σ δ Hb H σ δ Hb' H' → Good X.K N σ δ Hb' H' → RR X.K N σ δ Hb' H H' v' r → Q v' H') → rd v vs H Q := by
  unfold bmtD at h
  split at h
  · rename_i l x
    obtain ⟨n, hn, rfl⟩ := map_some h
    unfold indexD at hn
    split at hn
    · rename_i hz
      have hz' := Bool.and_eq_true_iff.mp hz
      refine ⟨_, mt_index, fun σ δ Hb H v vs Q g hv r post => ?_⟩
      obtain ⟨p, xs, rfl, hp, rp⟩ := hv.lst g.ex
      cases r with
      | cons rx rn =>
        cases rn
        rename_i y
        obtain ⟨hlt, hj, hno⟩ := List.findIdx?_eq_some_iff_getElem.mp hn
        obtain ⟨z, hz2, rz⟩ := rp.get (List.getElem?_eq_getElem hlt)
        have fl : ∀ i (hi : i < l.length), flatD l[i] = true := fun i hi => List.all_eq_true.mp hz'.2 _ (List.getElem_mem hi)
        refine ⟨p, xs, y, n, z, rfl, rfl, .of hp, (rx.flat hz'.1).1, rp.flat hz'.2, hz2, ?_, fun m z' hm hz3 => ?_, fin_dat g (.int _) post⟩
        · rw [← eqF_of rz rx (fl n hlt) hz'.1]; exact hj
        · obtain ⟨d', hd', rd'⟩ := rp.getV hz3
          have hml : m < l.length := Nat.lt_trans hm hlt
          rw [List.getElem?_eq_getElem hml] at hd'
          cases hd'
          have := hno m hm
          rw [← eqF_of rd' rx (fl m hml) hz'.1]
          simpa using this
    · cases hn
  · rename_i l kk d'
    obtain ⟨key, hk, rfl⟩ := map_some h
    refine ⟨_, mt_getD hu, fun σ δ Hb H v vs Q g hv r post => ?_⟩
    obtain ⟨p, xs, rfl, hp, rp⟩ := hv.dct g.ex
    cases r with
    | cons rx rn =>
      cases rn with
      | cons ry rn =>
        cases rn
        cases keyD_v (H := H) (.inl rx) hk
        refine ⟨p, _, _, _, rfl, rfl, DGet.k (k := key) hp, ?_⟩
        cases q : getK l key with
        | none =>
          rw [rp.none q]
          rw [q] at post
          exact fin_dat g ry post
        | some e =>
          obtain ⟨u, hu', ru⟩ := rp.some q
          rw [hu']
          rw [q] at post
          exact fin_dat g ru post
  · rename_i l kk d'
    obtain ⟨key, hk, rfl⟩ := map_some h
    refine ⟨_, mt_getD hu, fun σ δ Hb H v vs Q g hv r post => ?_⟩
    obtain ⟨p, xs, rfl, hp, rp⟩ := hv.dtt g.ex
    cases r with
    | cons rx rn =>
      cases rn with
      | cons ry rn =>
        cases rn
        cases rx with
        | @tup a ks ds' ha rk =>
        have ek := keysD_v rk hk
        subst ek
        refine ⟨p, _, _, _, rfl, rfl, DGet.t (k := key) hp (g.ex _ _ ha), ?_⟩
        cases q : getK l key with
        | none =>
          rw [rp.none q]
          rw [q] at post
          exact fin_dat g ry post
        | some e =>
          obtain ⟨u, hu', ru⟩ := rp.some q
          rw [hu']
          rw [q] at post
          exact fin_dat g ru post
  · rename_i a l
    split at h
    · rename_i ys hys
      split at h
      · rename_i hz
        cases h
        refine ⟨_, mt_join, fun σ δ Hb H v vs Q g hv r post => ?_⟩
        cases hv.str
        cases r with
        | cons rx rn =>
          cases rn
          cases rx with
          | @lst p xs _ hp rp =>
          cases strsD_v rp hys
          exact ⟨a, p, ys, rfl, rfl, .inl (.of (g.ex _ _ hp)), of_decide_eq_true hz, fin_dat g (.str _) post⟩
      · cases h
    · cases h
  · rename_i a b'
    split at h
    · cases h
    · rename_i hz
      cases h
      have hz' : (b'.length == 0) = false ∧ szOk (a.length + 2) = true := by
        cases h1 : (b'.length == 0) <;> cases h2 : szOk (a.length + 2) <;> simp_all
      refine ⟨_, mt_split, fun σ δ Hb H v vs Q g hv r post => ?_⟩
      cases hv.str
      cases r with
      | cons rx rn =>
        cases rn
        cases rx
        exact ⟨a, b', rfl, rfl, hz'.1, szOk_le hz'.2, fun p hp => fin_own g hp (.lst (RepL.strs _)) post⟩
  · cases h
theorem star_all {pos : Pos} {env : PySem.Env} : ∀ {es : List Expr}, es.all noStar = true → (backTo pos (starEach es env)).all (fun x => !x.1) = true
  | [], _ => rfl
  | e :: es, h => by
    rw [List.all_cons, Bool.and_eq_true] at h
    rw [star_ok h.1]
    show (true && (backTo pos (starEach es env)).all (fun x => !x.1)) = true
    rw [star_all h.2]
    rfl
theorem ej_bmt (o : XOk X k Ns sc N cf) {b : Bm} {ob e : Expr} {apos : Pos} {es : List Expr} {mo : M R} {ms : M (List R)} (hb0 : b ≠ .strip) (hb : plainBase ob = true) (hs : (e :: es).all noStar = true) (hn : (e :: es).length < 30) (hl : (apos.endLine == pos.line) = true)
    (he : EJ N X ob mo) (ha : AJ N X (e :: es) ms) : EJ N X (.Call (.Attribute ob (bmN b) apos) (e :: es) [] pos) (M.bnd mo fun x => M.bnd (look x (kindD b)) fun _ => M.bnd ms fun rs => M.bnd (gives rs) fun ds => look x fun d => bmtD b d ds) := by
  have hs' := List.all_cons ▸ hs
  have hs1 : noStar e = true := (Bool.and_eq_true_iff.mp hs').1
  have hs2 : es.all noStar = true := (Bool.and_eq_true_iff.mp hs').2
  have few : ((backTo pos (starEach (e :: es) X.env)).all (fun x => !x.1) && (backToKw pos (keywordEach [] X.env)).all (fun x => x.1.isSome)
      && decide ((e :: es).length + ([] : List Keyword).length + (if ([] : List Keyword).isEmpty then 0 else 1) < 30)) = true := by
    rw [star_all hs]
    have : decide ((e :: es).length + ([] : List Keyword).length + (if ([] : List Keyword).isEmpty then 0 else 1) < 30) = true := decide_eq_true (by simpa using hn)
    rw [this]
    rfl
  have hp : ∀ rd, MtR X (bmI b) rd → PE X (.Call (.Attribute ob (bmN b) apos) (e :: es) [] pos) (tBM X.K (bmT b) rd (cE X ob) (cA X (e :: es))) := fun rd hm => by
    cases b with
    | index => exact pe_bm PySem.F.plainAttrs_list PySem.F.slot_list_index PySem.F.type_list_index hm (pe_c _) (pa_c _) (base_ok hb) few hl (star_ok hs1) (star_plain hs2)
    | get => exact pe_bm PySem.F.plainAttrs_dict PySem.F.slot_dict_get PySem.F.type_dict_get hm (pe_c _) (pa_c _) (base_ok hb) few hl (star_ok hs1) (star_plain hs2)
    | join => exact pe_bm PySem.F.plainAttrs_str PySem.F.slot_str_join PySem.F.type_str_join hm (pe_c _) (pa_c _) (base_ok hb) few hl (star_ok hs1) (star_plain hs2)
    | split => exact pe_bm PySem.F.plainAttrs_str PySem.F.slot_str_split PySem.F.type_str_split hm (pe_c _) (pa_c _) (base_ok hb) few hl (star_ok hs1) (star_plain hs2)
    | strip => exact absurd rfl hb0
  have m0 : MtR X (bmI b) fun _ _ _ _ => False := fun _ _ _ _ _ _ _ _ _ _ _ _ z => z.elim
  intro δ res h W σ Hb H Q tk g post
  rcases M.bnd_ok h with ⟨x, δ1, e1, h⟩ | ⟨c', fs, δ1, e1, rfl⟩
  · rcases M.bnd_ok h with ⟨_, δ1', e2, h⟩ | ⟨c', fs, δ2, e2, rfl⟩
    · obtain ⟨d0, u, v0, hd, e3⟩ := look_ok e2
      cases e3
      rcases M.bnd_ok h with ⟨rs, δ2, e4, h⟩ | ⟨c', fs, δ2, e4, rfl⟩
      · rcases M.bnd_ok h with ⟨ds, δ3, e5, h⟩ | ⟨c', fs, δ3, e5, rfl⟩
        · obtain ⟨d, r, v1, hr, rfl⟩ := look_ok h
          obtain ⟨rd, hm, hrd⟩ := bmtD_ok (N := N) o.hu hr
          refine cE_of (hp rd hm) (he δ _ e1 W σ Hb H _ tk g fun v Hb1 H1 s1 g1 r1 => ⟨kind_ty g1.ex (g1.vw r1 v0) hd, ?_⟩)
          refine ha δ1 _ e4 W σ Hb1 H1 _ tk g1 fun vs Hb2 H2 s2 g2 r2 => ?_
          obtain ⟨ds', δ3', Hb3, q3, s3, g3, r3, x3, k3, o3⟩ := g2.gives s2 r2 e5
          cases q3
          have rx : RR X.K N σ δ3 Hb3 H H2 v x := by
            refine (r1.keep s2).given x3 o3 fun q e n1 n2 ⟨d', ed⟩ => k3 q n1 n2 fun z => ?_
            obtain ⟨z1, _⟩ := r2.1.fresh q z
            subst ed
            obtain ⟨p, ob', e', _, _, f, _⟩ := r1
            rw [e] at e'
            cases e'
            rw [f] at z1
            cases z1
          refine hrd σ δ3 Hb3 H2 v vs Q g3 (g3.vw rx v1) r3 fun v' Hb4 H4 s4 g4 r4 => ?_
          exact post v' Hb4 H4 ((s1.trans s3).trans s4) g4 (r4.base (s1.trans s2).dom)
        · refine cE_of (hp _ m0) (he δ _ e1 W σ Hb H _ tk g fun v Hb1 H1 s1 g1 r1 => ⟨kind_ty g1.ex (g1.vw r1 v0) hd, ?_⟩)
          refine ha δ1 _ e4 W σ Hb1 H1 _ tk g1 fun vs Hb2 H2 s2 g2 r2 => ?_
          obtain ⟨_, _, _, q3, _⟩ := g2.gives s2 r2 e5
          cases q3
      · refine cE_of (hp _ m0) (he δ _ e1 W σ Hb H _ tk g fun v Hb1 H1 s1 g1 r1 => ⟨kind_ty g1.ex (g1.vw r1 v0) hd, ?_⟩)
        exact ha δ1 _ e4 W σ Hb1 H1 _ tk g1 fun cv dd Hb2 H2 s2 g2 r2 => post cv dd Hb2 H2 (s1.trans s2) g2 r2
    · obtain ⟨_, _, _, _, z⟩ := look_ok e2
      cases z
  · exact cE_of (hp _ m0) (he δ _ e1 W σ Hb H _ tk g post)
end
end Rl

set_option Elab.async false
set_option linter.all false
set_option maxRecDepth 100000
set_option maxHeartbeats 4000000
/-! Lay Q0: enumerate over a tuple. -/
namespace PySem
open PySem
open PyProof.Rows in
theorem meets_enumerate_newB1 {v : Value} {o : Obj} {H : Heap → Prop} (B : Begins v o H) :
    Meets (Builtin.«enumerate.__new__» ⟨[.type "enumerate", v], []⟩) (fun _ R s => H s.heap ∧
      R (.ok (.ret (.ref (s.heap.push o).objs.size))) { s with heap := (s.heap.push o).push { cls := .type "enumerate", data := .fields #[.none, .bool false, .ref s.heap.objs.size, rawInt 0, .none, .none] } }) :=
  .of_wp fun prog w A R s h => by
    obtain ⟨hp, g, d, tk, os⟩ := s; obtain ⟨h1, h⟩ := h
    have hsub := sub_enumerate
    have q1 : ∀ {A' : Around} {E : Value → Shared → Prop} {Q : Value → Shared → Prop}, Q (.ref hp.objs.size) ⟨hp.push o, g, d, tk, os⟩ → wpAny (model prog w) A' (pyIter v) Q E ⟨hp, g, d, tk, os⟩ :=
      fun q => B.iter prog w _ _ ⟨hp, g, d, tk, os⟩ _ h1 q
    wp_walk using q1
    refine wpAny_stack_any fun st => wpAny_pure ?_
    split
    · rename_i c _ _ _ _ _
      cases (c == Value.type "enumerate")
      · wp_walk using q1
        exact ⟨_, rfl, h⟩
      · wp_walk using q1
        exact ⟨_, rfl, h⟩
    · wp_walk using q1
      exact ⟨_, rfl, h⟩
section
variable {prog : Program} {w : World} {A : Around} {E : Value → Shared → Prop} {s : Shared}
theorem enum_begins1 {v : Value} {o : Obj} {H : Heap → Prop} {Q : Value → Shared → Prop} (B : Begins v o H) (h1 : H s.heap)
    (h : ∀ h', IsEnum h' (s.heap.objs.size + 1) s.heap.objs.size 0 .none → h'.get? s.heap.objs.size = some o → h'.objs.size = s.heap.objs.size + 2 →
      (∀ b o, s.heap.get? b = some o → h'.get? b = some o) → Q (.ref (s.heap.objs.size + 1)) { s with heap := h' }) :
    wpAny (model prog w) A (call (.type "enumerate") [v]) Q E s := by
  refine callType_new F.called_enumerate (by decide) (F.typeCall_enumerate_1 _) (F.newCall_enumerate_1 _) (fun obj => F.args_object_init_2 obj _) F.entry_enumerate_new
    (meets_enumerate_newB1 B) ⟨h1, ?_⟩
  have hz : (s.heap.push o).objs.size = s.heap.objs.size + 1 := Heap.size_push ..
  show _ ∧ _
  rw [hz]
  have he : IsEnum ((s.heap.push o).push { cls := .type "enumerate", data := .fields #[.none, .bool false, .ref s.heap.objs.size, rawInt 0, .none, .none] }) (s.heap.objs.size + 1) s.heap.objs.size 0 .none := by
    have := Heap.get?_push_size (s.heap.push o) (o := { cls := .type "enumerate", data := .fields #[.none, .bool false, .ref s.heap.objs.size, rawInt 0, .none, .none] }) rfl
    rw [hz] at this; exact this
  refine ⟨⟨_, he, rfl⟩, h _ he (Heap.get?_push_of_some _ (Heap.get?_push_size _ B.free)) (by rw [Heap.size_push, hz]) fun b o x => Heap.get?_push_of_some _ (Heap.get?_push_of_some _ x)⟩
end
end PySem
namespace Rl
open PySem L2 PySem.Spec PyProof.Rows
def IteT (K : PySem.W.Frag) (a : Addr) : It :=
  ⟨fun i H => ∃ (xs : List V) (x : V), SqT K H a xs ∧ xs[i]? = some x, fun i H v H' => ∃ T x, v = .ref T ∧ H T = none ∧ H' = upd H T (.tup [.int (i : Nat), x]) ∧ ∀ xs, SqT K H a xs → xs[i]? = some x, fun i H => ∃ xs : List V, SqT K H a xs ∧ xs.length = i⟩
theorem turn_enumT {P : Program} {w : World} {K : PySem.W.Frag} {elts : List Expr} {kk : Nat} {tpos : Pos} (a e it : Addr) (hae : a ≠ e) (hai : a ≠ it) :
    Turn P w K (.Tuple elts kk tpos) (IteT K a) [e, it] e (fun i h => (∃ old, IsEnum h e it ((i : Nat) : Int) old) ∧ h.IsTupleIter it a i ∧ e ≠ it) where
  mem := by simp
  obj := fun i h st b hb => by
    obtain ⟨⟨old, he⟩, ⟨o, ho, hc, hd⟩, _⟩ := st
    have e' : b = e ∨ b = it := by simpa using hb
    rcases e' with z | z
    · rw [z]; exact ⟨_, he, fun v q => nomatch q⟩
    · rw [z]; exact ⟨o, ho, fun v q => by rw [hd] at q; cases q⟩
  keep := fun i h h' st k => let ⟨⟨old, he⟩, hi, hne⟩ := st; ⟨⟨old, k e (by simp) _ he⟩, hi.at fun o q => k it (by simp) o q, hne⟩
  item := by
    intro X hP hw hK hc i pins s σ H E I hf st hg
    subst hP hw hK
    obtain ⟨⟨old, he⟩, hit, hne⟩ := st
    obtain ⟨xs, x, hq, hx⟩ := hg
    obtain ⟨its, rv, p, hz⟩ := I.tuple hq
    obtain ⟨u, hu, ru⟩ := rv.get hx
    have hel : e < s.heap.objs.size := Heap.lt_size he
    have hil : it < s.heap.objs.size := by obtain ⟨_, q, _⟩ := hit; exact Heap.lt_size q
    have hlt : i < its.toArray.size := by
      have := (List.getElem?_eq_some_iff.mp hu).1
      simpa using this
    have D := Draws.tuple (prog := X.prog) (w := X.w) (A := X.A.in1) (I.ok.hd hc) it a hai its.toArray
    refine wpAny_pyNext_enum_itemD D he ⟨hit, p⟩ hlt hne (by simp [hne, Ne.symm hae]) fun u' h' tk hP ho hst hT hsz hk => ?_
    have eu : u' = u := by
      have h1 : its[i]? = some u' := by simpa using hP
      rw [hu] at h1
      exact (Option.some.inj h1).symm
    subst eu
    obtain ⟨hit', _⟩ := hst
    refine ⟨_, rfl, wpAny_letOwnedTupleGo_enum (s := { s with heap := h', toks := tk + 1 }) ho fun h'' he' sb => ?_⟩
    have hT2 : h''.get? s.heap.objs.size = some { cls := .type "tuple", data := .seq #[.int i tk, u'] } := (sb.2 _ (Nat.ne_of_gt hel)).trans hT
    have new : ObjOk X.prog X.w (upd H s.heap.objs.size (.tup [.int (i : Nat), x])) h'' s.heap.objs.size (.tup [.int (i : Nat), x]) :=
      ⟨by show 2 ≤ sizeLine; decide, [.int i tk, u'], .cons ⟨_, rfl⟩ (.cons ru .nil), ⟨_, hT2, rfl, _, rfl⟩⟩
    have I1 : Inv X pins σ (upd H s.heap.objs.size (.tup [.int (i : Nat), x])) { s with heap := h'', toks := tk + 1 } :=
      I.turnedNew (ch := [e, it]) (fun b ob hb q => (sb.2 b (fun z => hb (by simp [z]))).trans (hk b ob (fun z => hb (by simp [z])) (fun z => hb (by simp [z])) q)) hf (Nat.le_refl _) new
    refine ⟨.ref s.heap.objs.size, _, I1, rfl, ⟨_, x, rfl, I.hok.fresh (Nat.le_refl _), rfl, fun ys hy => by rw [I.tuple_inj hy hq]; exact hx⟩, ⟨⟨u', ?_⟩, hit'.at fun o q => (sb.2 it (Ne.symm hne)).trans q, hne⟩, fun b hb => ?_⟩
    · have e1 : ((i + 1 : Nat) : Int) = (i : Int) + 1 := by omega
      rw [e1]; exact he'
    · have hb' : b < s.heap.objs.size := by
        have e' : b = e ∨ b = it := by simpa using hb
        rcases e' with z | z
        · rw [z]; exact hel
        · rw [z]; exact hil
      rw [upd_ne (Nat.ne_of_lt hb')]
      exact (hf b hb).1
  done := by
    intro X hP hw hK hc i pins s σ H E I hf st hg
    subst hP hw hK
    obtain ⟨⟨old, he⟩, hit, hne⟩ := st
    obtain ⟨xs, hq, hx⟩ := hg
    obtain ⟨its, rv, p, hz⟩ := I.tuple hq
    obtain ⟨f0, f1, f2, f3, f4, f5⟩ := hf it (by simp)
    have hl := rv.length
    have D := Draws.tuple (prog := X.prog) (w := X.w) (A := X.A.in1) (I.ok.hd hc) it a hai its.toArray
    have hi : i = its.toArray.size := by simp; omega
    subst hi
    exact wpAny_pyNext_enum_endD D he ⟨hit, p⟩ fun h' eb => ⟨rfl, I.turned (t' := s.toks) (fun b o hb q => eb b o hb q) f0 f1 f3 f4 f5⟩
  self := fun A i s Q E st h => let ⟨⟨_, he⟩, _⟩ := st; wpAny_pyIter_enum he h
def iEnumT (K : PySem.W.Frag) (ta : TA) : TI := fun σ H R => ta σ H fun vs H1 => ∃ a xs, vs = [.ref a] ∧ SqT K H1 a xs ∧ R (IteT K a) H1
theorem pi_enumT {X : Cx} {e : Expr} {ta : TA} {p pos tpos : Pos} {elts : List Expr} {kk : Nat} (hg : Gl X "enumerate") (hm : X.mg "enumerate" = none) (ha : PA X [e] ta) (hs : starEach [e] X.env = [(false, eval e X.env)] := by rfl) :
    PI X (.Tuple elts kk tpos) (.Call (.Name "enumerate" p) [e] [] pos) (iEnumT X.K ta) := by
  refine ⟨fun pins s σ H R I h => ?_⟩
  refine Call_ (ld_blt I hg hm boot_enumerate (PyProof.Rows.callWith_type1 (thn (ha.run pos pins s σ H _ I h) fun us s1 ⟨vs, H1, I1, r1, q1⟩ => ?_) hs rfl))
  obtain ⟨a, xs, ex, hq, q⟩ := q1
  subst ex
  cases r1 with
  | cons r rr =>
    cases rr
    cases r
    obtain ⟨its, rv, p', hz⟩ := I1.tuple hq
    have p2 : s1.heap.IsTuple a its.toArray := p'
    have la : a < s1.heap.objs.size := by
      obtain ⟨o, ho, _⟩ := p2
      exact Heap.lt_size ho
    refine enum_begins1 (begins_tuple a its.toArray) p2 fun h' he hit hsz hk => wpAny_pyIter_enum he ?_
    have I2 : Inv X pins σ H1 { s1 with heap := h' } := I1.kept (t' := s1.toks) hk
    refine ⟨s1.heap.objs.size + 1, [s1.heap.objs.size + 1, s1.heap.objs.size], _, _, H1, rfl, I2, turn_enumT a (s1.heap.objs.size + 1) s1.heap.objs.size (Nat.ne_of_lt (Nat.lt_succ_of_lt la)) (Nat.ne_of_lt la), ⟨⟨.none, he⟩, ⟨_, hit, rfl, rfl⟩, Nat.succ_ne_self _⟩, fun b hb => ?_, q⟩
    have e' : b = s1.heap.objs.size + 1 ∨ b = s1.heap.objs.size := by simpa using hb
    have hle : s1.heap.objs.size ≤ b := by
      rcases e' with z | z
      · rw [z]; exact Nat.le_add_right _ _
      · rw [z]; exact Nat.le_refl _
    exact I1.fpOk hle (I1.hok.fresh hle)
end Rl

set_option Elab.async false
set_option linter.all false
set_option maxRecDepth 100000
set_option maxHeartbeats 4000000
/-! Lay Q: what is gone through. -/
namespace Rl
open PySem L2
structure Src (K : PySem.W.Frag) (N : Nm) (J : It) (ds : List D) (Hb : Hp) : Prop where
  go : ∀ i H, i < ds.length → Ex Hb H → J.go i H
  stop : ∀ H, Ex Hb H → J.stop ds.length H
  yld : ∀ i H x H' d, ds[i]? = some d → Ex Hb H → J.yld i H x H' → (H' = H ∧ Rep K N Hb x d) ∨ ∃ T o, x = .ref T ∧ H T = none ∧ H' = upd H T o ∧ Rep K N (upd Hb T o) x d
section
variable {X : Cx} {k : Nat} {Ns : List Str} {sc : Scope} {N : Nm} {cf : Cfg} {pos : Pos} {K : PySem.W.Frag} {Hb H : Hp}
theorem Src.list {a : Addr} {xs : List V} {ds : List D} (h : SqL K Hb a xs) (r : RepL K N Hb xs ds) (inj : ∀ H, Ex Hb H → SqL K H a xs) : Src K N (Itl K a) ds Hb where
  go := fun i H hi ex => by
    obtain ⟨v, hv, _⟩ := r.get (List.getElem?_eq_getElem hi)
    exact ⟨xs, v, inj H ex, hv⟩
  stop := fun H ex => ⟨xs, inj H ex, by rw [RepL.length r]; exact Nat.le_refl _⟩
  yld := fun i H x H' d hd ex y => by
    obtain ⟨rfl, y⟩ := y
    obtain ⟨v, hv, rv⟩ := r.get hd
    have := y xs (inj H' ex)
    rw [hv] at this
    cases this
    exact .inl ⟨rfl, rv⟩
theorem Src.tuple {a : Addr} {xs : List V} {ds : List D} (r : RepL K N Hb xs ds) (inj : ∀ H, Ex Hb H → SqT K H a xs) : Src K N (Itt K a) ds Hb where
  go := fun i H hi ex => by
    obtain ⟨v, hv, _⟩ := r.get (List.getElem?_eq_getElem hi)
    exact ⟨xs, v, inj H ex, hv⟩
  stop := fun H ex => ⟨xs, inj H ex, by rw [RepL.length r]; exact Nat.le_refl _⟩
  yld := fun i H x H' d hd ex y => by
    obtain ⟨rfl, y⟩ := y
    obtain ⟨v, hv, rv⟩ := r.get hd
    have := y xs (inj H' ex)
    rw [hv] at this
    cases this
    exact .inl ⟨rfl, rv⟩
theorem Src.range (lo : Int) (n : Nat) : Src K N (Itr lo n) ((List.range n).map fun k => .int (lo + (k : Nat))) Hb where
  go := fun i H hi ex => by
    show i < n
    simpa using hi
  stop := fun H ex => by show n ≤ _; simp
  yld := fun i H x H' d hd ex y => by
    obtain ⟨rfl, rfl⟩ := y
    rw [List.getElem?_map] at hd
    obtain ⟨j, hj, rfl⟩ := map_some hd
    obtain ⟨h1, h2⟩ := List.getElem?_eq_some_iff.mp hj
    rw [List.getElem_range] at h2
    subst h2
    exact .inl ⟨rfl, .int _⟩
theorem enumD_len : ∀ (l : List D) (n : Nat), (enumD l n).length = l.length
  | [], _ => rfl
  | _ :: r, n => by unfold enumD; rw [List.length_cons, List.length_cons, enumD_len r]
theorem enumD_get : ∀ (l : List D) (n i : Nat) (e : D), (enumD l n)[i]? = some e → ∃ d, l[i]? = some d ∧ e = .tup [.int ((n + i : Nat) : Int), d]
  | [], _, _, _, h => by unfold enumD at h; simp at h
  | d :: r, n, 0, e, h => by unfold enumD at h; simp at h; exact ⟨d, rfl, h.symm⟩
  | d :: r, n, i + 1, e, h => by
    unfold enumD at h
    obtain ⟨d', h1, h2⟩ := enumD_get r (n + 1) i e (by simpa using h)
    refine ⟨d', by simpa using h1, ?_⟩
    rw [h2]
    have : n + 1 + i = n + (i + 1) := by omega
    rw [this]
theorem Src.enumL {a : Addr} {xs : List V} {ds : List D} (r : RepL K N Hb xs ds) (inj : ∀ H, Ex Hb H → SqL K H a xs) : Src K N (Ite K a) (enumD ds 0) Hb where
  go := fun i H hi ex => by
    rw [enumD_len] at hi
    obtain ⟨v, hv, _⟩ := r.get (List.getElem?_eq_getElem hi)
    exact ⟨xs, v, inj H ex, hv⟩
  stop := fun H ex => ⟨xs, inj H ex, by rw [enumD_len, RepL.length r]; exact Nat.le_refl _⟩
  yld := fun i H x H' d hd ex y => by
    obtain ⟨d', h1, rfl⟩ := enumD_get ds 0 i d hd
    obtain ⟨T, v, rfl, hT, rfl, y⟩ := y
    obtain ⟨v', hv, rv⟩ := r.get h1
    have := y xs (inj H ex)
    rw [hv] at this
    cases this
    refine .inr ⟨T, _, rfl, hT, rfl, .tup upd_same (.cons ?_ (.cons (rv.mono (Ex.new ?_)) .nil))⟩
    · rw [Nat.zero_add]; exact .int _
    · cases q : Hb T with
      | none => rfl
      | some o => rw [ex T o q] at hT; cases hT
theorem Src.enumT {a : Addr} {xs : List V} {ds : List D} (r : RepL K N Hb xs ds) (inj : ∀ H, Ex Hb H → SqT K H a xs) : Src K N (IteT K a) (enumD ds 0) Hb where
  go := fun i H hi ex => by
    rw [enumD_len] at hi
    obtain ⟨v, hv, _⟩ := r.get (List.getElem?_eq_getElem hi)
    exact ⟨xs, v, inj H ex, hv⟩
  stop := fun H ex => ⟨xs, inj H ex, by rw [enumD_len, RepL.length r]⟩
  yld := fun i H x H' d hd ex y => by
    obtain ⟨d', h1, rfl⟩ := enumD_get ds 0 i d hd
    obtain ⟨T, v, rfl, hT, rfl, y⟩ := y
    obtain ⟨v', hv, rv⟩ := r.get h1
    have := y xs (inj H ex)
    rw [hv] at this
    cases this
    refine .inr ⟨T, _, rfl, hT, rfl, .tup upd_same (.cons ?_ (.cons (rv.mono (Ex.new ?_)) .nil))⟩
    · rw [Nat.zero_add]; exact .int _
    · cases q : Hb T with
      | none => rfl
      | some o => rw [ex T o q] at hT; cases hT
theorem zip_get {α β : Type} {xs : List α} {ys : List β} {i : Nat} {p : α × β} (h : (xs.zip ys)[i]? = some p) : xs[i]? = some p.1 ∧ ys[i]? = some p.2 := by
  rw [List.getElem?_zip_eq_some] at h
  exact h
theorem Src.zipL {a b : Addr} {xs ys : List V} {ds es : List D} (r : RepL K N Hb xs ds) (q : RepL K N Hb ys es) (inj : ∀ H, Ex Hb H → SqL K H a xs) (jnj : ∀ H, Ex Hb H → SqL K H b ys) : Src K N (Itz K a b) ((ds.zip es).map fun p => .tup [p.1, p.2]) Hb where
  go := fun i H hi ex => by
    rw [List.length_map, List.length_zip] at hi
    obtain ⟨v, hv, _⟩ := r.get (List.getElem?_eq_getElem (show i < ds.length by omega))
    obtain ⟨u, hu, _⟩ := q.get (List.getElem?_eq_getElem (show i < es.length by omega))
    exact ⟨xs, ys, v, u, inj H ex, jnj H ex, hv, hu⟩
  stop := fun H ex => ⟨xs, ys, inj H ex, jnj H ex, by rw [List.length_map, List.length_zip, RepL.length r, RepL.length q]; omega⟩
  yld := fun i H x H' d hd ex y => by
    rw [List.getElem?_map] at hd
    obtain ⟨p, hp, rfl⟩ := map_some hd
    obtain ⟨h1, h2⟩ := zip_get hp
    obtain ⟨T, v, u, rfl, hT, rfl, y1, y2⟩ := y
    obtain ⟨v', hv, rv⟩ := r.get h1
    obtain ⟨u', hu, ru⟩ := q.get h2
    have z1 := y1 xs (inj H ex)
    have z2 := y2 ys (jnj H ex)
    rw [hv] at z1
    rw [hu] at z2
    cases z1
    cases z2
    have nb : Hb T = none := by
      cases q : Hb T with
      | none => rfl
      | some o => rw [ex T o q] at hT; cases hT
    exact .inr ⟨T, _, rfl, hT, rfl, .tup upd_same (.cons (rv.mono (Ex.new nb)) (.cons (ru.mono (Ex.new nb)) .nil))⟩
theorem Src.zipT {a b : Addr} {xs ys : List V} {ds es : List D} (r : RepL K N Hb xs ds) (q : RepL K N Hb ys es) (inj : ∀ H, Ex Hb H → SqT K H a xs) (jnj : ∀ H, Ex Hb H → SqT K H b ys) : Src K N (RZ.ItzT K a b) ((ds.zip es).map fun p => .tup [p.1, p.2]) Hb where
  go := fun i H hi ex => by
    rw [List.length_map, List.length_zip] at hi
    obtain ⟨v, hv, _⟩ := r.get (List.getElem?_eq_getElem (show i < ds.length by omega))
    obtain ⟨u, hu, _⟩ := q.get (List.getElem?_eq_getElem (show i < es.length by omega))
    exact ⟨xs, ys, v, u, inj H ex, jnj H ex, hv, hu⟩
  stop := fun H ex => ⟨xs, ys, inj H ex, jnj H ex, by rw [List.length_map, List.length_zip, RepL.length r, RepL.length q]; omega⟩
  yld := fun i H x H' d hd ex y => by
    rw [List.getElem?_map] at hd
    obtain ⟨p, hp, rfl⟩ := map_some hd
    obtain ⟨h1, h2⟩ := zip_get hp
    obtain ⟨T, v, u, rfl, hT, rfl, y1, y2⟩ := y
    obtain ⟨v', hv, rv⟩ := r.get h1
    obtain ⟨u', hu, ru⟩ := q.get h2
    have z1 := y1 xs (inj H ex)
    have z2 := y2 ys (jnj H ex)
    rw [hv] at z1
    rw [hu] at z2
    cases z1
    cases z2
    have nb : Hb T = none := by
      cases q : Hb T with
      | none => rfl
      | some o => rw [ex T o q] at hT; cases hT
    exact .inr ⟨T, _, rfl, hT, rfl, .tup upd_same (.cons (rv.mono (Ex.new nb)) (.cons (ru.mono (Ex.new nb)) .nil))⟩
/-! ### judgement -/
def cI (X : Cx) (tg it : Expr) : TI := fun σ H R => ∀ pins s, Inv X pins σ H s → wpAny (model X.prog X.w) X.A (eval it X.env) (fun v s1 => wpAny (model X.prog X.w) X.A (pyIter v) (PIE X pins σ tg R) X.xe s1) X.xe s
theorem pi_c (tg it : Expr) : PI X tg it (cI X tg it) := ⟨fun pins s σ H R I h => h pins s I⟩
theorem cI_of {tg it : Expr} {t : TI} (h : PI X tg it t) {σ : L2.St} {H : Hp} {R : It → Hp → Prop} (q : t σ H R) : cI X tg it σ H R := fun pins s I => h.run pins s σ H R I q
def IPost (K : PySem.W.Frag) (N : Nm) (W : WX) (σ : L2.St) (δ : Env) (Hb H : Hp) (R : It → Hp → Prop) : Res (List D) → Prop
  | .ok ds δ' => ∀ J Hb' H', Stp σ δ Hb H σ δ' Hb' H' → Good K N σ δ' Hb' H' → Src K N J ds Hb' → R J H'
  | .ex c fs δ' => ∀ cv dd Hb' H', Stp σ δ Hb H σ δ' Hb' H' → Good K N σ δ' Hb' H' → XR K N Hb' cv dd c fs → W cv dd σ H'
def IJ (N : Nm) (X : Cx) (tg it : Expr) (m : M (List D)) : Prop :=
  ∀ δ res, m δ = some res → ∀ (W : WX) σ Hb H R, Takes X W → Good X.K N σ δ Hb H → IPost X.K N W σ δ Hb H R res → cI X tg it σ H R
theorem lst_sq {K : PySem.W.Frag} {Hb : Hp} {v : V} {l : List D} (h : Rep K N Hb v (.lst l)) : ∃ a xs, v = .ref a ∧ RepL K N Hb xs l ∧ Hb a = some (.lst xs) := by
  cases h with | lst h r => exact ⟨_, _, rfl, r, h⟩
theorem tup_sq {K : PySem.W.Frag} {Hb : Hp} {v : V} {l : List D} (h : Rep K N Hb v (.tup l)) : ∃ a xs, v = .ref a ∧ RepL K N Hb xs l ∧ ∀ H, Ex Hb H → SqT K H a xs := by
  cases h with | tup h r => exact ⟨_, _, rfl, r, fun H ex => .of (ex _ _ h)⟩
theorem ctp_sq {K : PySem.W.Frag} {Hb : Hp} {v : V} {l : List D} (h : Rep K N Hb v (.ctp l)) : ∃ a xs, v = .ref a ∧ RepL K N Hb xs l ∧ ∀ H, Ex Hb H → SqT K H a xs := by
  cases h with | ctp h r => exact ⟨_, _, rfl, r, fun H ex => ex.st h⟩
/-- as a sequence -/
theorem seq_rep {K : PySem.W.Frag} {Hb : Hp} {v : V} {d : D} {l : List D} (h : Rep K N Hb v d) (e : seqD d = some l) : ∃ a xs, v = .ref a ∧ RepL K N Hb xs l ∧ (((∃ l, d = .lst l) ∧ ∀ H, Ex Hb H → SqL K H a xs) ∨ ((∀ l, d ≠ .lst l) ∧ ∀ H, Ex Hb H → SqT K H a xs)) := by
  unfold seqD at e
  split at e
  · cases e
    obtain ⟨a, xs, rfl, r, hh⟩ := lst_sq h
    exact ⟨a, xs, rfl, r, .inl ⟨⟨_, rfl⟩, fun H ex => .of (ex _ _ hh)⟩⟩
  · cases e
    obtain ⟨a, xs, rfl, r, hh⟩ := tup_sq h
    exact ⟨a, xs, rfl, r, .inr ⟨fun _ z => (nomatch z), hh⟩⟩
  · cases e
    obtain ⟨a, xs, rfl, r, hh⟩ := ctp_sq h
    exact ⟨a, xs, rfl, r, .inr ⟨fun _ z => (nomatch z), hh⟩⟩
  · cases e
theorem ij_seq {tg e : Expr} {m : M R} (he : EJ N X e m) : IJ N X tg e (M.bnd m fun r => M.bnd (give r) fun d => M.opt (seqD d)) := by
  intro δ res h W σ Hb H R tk g post
  rcases M.bnd_ok h with ⟨r, δ1, e1, h⟩ | ⟨c, fs, δ1, e1, rfl⟩
  · rcases M.bnd_ok h with ⟨d, δ2, e2, h⟩ | ⟨c, fs, δ2, e2, rfl⟩
    · obtain ⟨l, hl, rfl⟩ := M.opt_ok h
      by_cases hd : ∃ l, d = .lst l
      · refine cI_of (pi_list (pe_c e)) (he δ _ e1 W σ Hb H _ tk g fun v Hb1 H1 s1 g1 r1 => ?_)
        obtain ⟨d', δ', Hb2, q2, s2, g2, r2, _⟩ := g1.give s1 r1 e2
        cases q2
        obtain ⟨a, xs, rfl, rl, ⟨_, hs⟩ | ⟨hn, _⟩⟩ := seq_rep r2 hl
        · exact ⟨a, rfl, ⟨xs, hs _ g2.ex⟩, post _ Hb2 H1 s2 g2 (Src.list (hs _ (Ex.refl _)) rl hs)⟩
        · obtain ⟨l', rfl⟩ := hd
          exact absurd rfl (hn _)
      · refine cI_of (pi_tup (pe_c e)) (he δ _ e1 W σ Hb H _ tk g fun v Hb1 H1 s1 g1 r1 => ?_)
        obtain ⟨d', δ', Hb2, q2, s2, g2, r2, _⟩ := g1.give s1 r1 e2
        cases q2
        obtain ⟨a, xs, rfl, rl, ⟨hy, hs⟩ | ⟨hn, hs⟩⟩ := seq_rep r2 hl
        · exact absurd hy hd
        · exact ⟨a, rfl, ⟨xs, hs _ g2.ex⟩, post _ Hb2 H1 s2 g2 (Src.tuple rl hs)⟩
    · refine cI_of (pi_list (pe_c e)) (he δ _ e1 W σ Hb H _ tk g fun v Hb1 H1 s1 g1 r1 => ?_)
      obtain ⟨_, _, _, q2, _⟩ := g1.give s1 r1 e2
      cases q2
  · exact cI_of (pi_list (pe_c e)) (he δ _ e1 W σ Hb H _ tk g post)
theorem star_one {e : Expr} {env : PySem.Env} (h : noStar e = true) : starEach [e] env = [(false, eval e env)] := star_ok h
theorem star_two {a b : Expr} {env : PySem.Env} (h : noStar a = true) (h2 : noStar b = true) : starEach [a, b] env = [(false, eval a env), (false, eval b env)] := by rw [star_ok h, star_ok h2]; rfl
theorem rngOk_of {i : Int} (h : rngOk i = true) : -(2 ^ 62) ≤ i ∧ i < 2 ^ 62 := by
  have h' := Bool.and_eq_true_iff.mp h
  exact ⟨of_decide_eq_true h'.1, of_decide_eq_true h'.2⟩
theorem ij_rg1 (o : XOk X k Ns sc N cf) {tg e : Expr} {p : Pos} {m : M R} (hg : glB sc "range" = true) (hs : noStar e = true) (he : EJ N X e m) : IJ N X tg (.Call (.Name "range" p) [e] [] pos) (M.bnd m fun r => look r rg1D) := by
  have hp : PI X tg (.Call (.Name "range" p) [e] [] pos) (iRng1 (tCons (cE X e) tNil)) := pi_range1 (o.gl hg) (o.tab.blt _ (by decide)) (pa_cons (pe_c e) pa_nil (star_ok hs)) (star_one hs)
  intro δ res h W σ Hb H R tk g post
  rcases M.bnd_ok h with ⟨r, δ1, e1, h⟩ | ⟨c, fs, δ1, e1, rfl⟩
  · obtain ⟨d, l, v1, hl, rfl⟩ := look_ok h
    unfold rg1D at hl
    split at hl
    · rename_i i
      split at hl
      · rename_i hr
        cases hl
        obtain ⟨a1, a2⟩ := rngOk_of hr
        refine cI_of hp (he δ _ e1 W σ Hb H _ tk g fun v Hb1 H1 s1 g1 r1 => ?_)
        cases (g1.vw r1 v1).int
        refine ⟨i, rfl, a1, a2, post _ Hb1 H1 s1 g1 ?_⟩
        unfold rangeD
        rw [Int.sub_zero]
        exact Src.range 0 _
      · cases hl
    · cases hl
  · exact cI_of hp (he δ _ e1 W σ Hb H _ tk g post)
theorem ij_rg2 (o : XOk X k Ns sc N cf) {tg a b : Expr} {p : Pos} {ma mb : M R} (hg : glB sc "range" = true) (hs : noStar a = true) (hs2 : noStar b = true) (ha : EJ N X a ma) (hb : EJ N X b mb) : IJ N X tg (.Call (.Name "range" p) [a, b] [] pos) (M.bnd ma fun r => M.bnd mb fun s => look2 r s rg2D) := by
  have hp : PI X tg (.Call (.Name "range" p) [a, b] [] pos) (iRng2 (tCons (cE X a) (tCons (cE X b) tNil))) := pi_range2 (o.gl hg) (o.tab.blt _ (by decide)) (pa_cons (pe_c a) (pa_cons (pe_c b) pa_nil (star_ok hs2)) (star_ok hs)) (star_two hs hs2) (star_one hs2)
  intro δ res h W σ Hb H R tk g post
  rcases M.bnd_ok h with ⟨r, δ1, e1, h⟩ | ⟨c, fs, δ1, e1, rfl⟩
  · rcases M.bnd_ok h with ⟨s, δ2, e2, h⟩ | ⟨c, fs, δ2, e2, rfl⟩
    · obtain ⟨d, e, l, v1, v2, hl, rfl⟩ := look2_ok h
      unfold rg2D at hl
      split at hl
      · rename_i i j
        split at hl
        · rename_i hr
          cases hl
          have hr' := Bool.and_eq_true_iff.mp hr
          obtain ⟨a1, a2⟩ := rngOk_of hr'.1
          obtain ⟨a3, a4⟩ := rngOk_of hr'.2
          refine cI_of hp (ha δ _ e1 W σ Hb H _ tk g fun v Hb1 H1 s1 g1 r1 => hb δ1 _ e2 W σ Hb1 H1 _ tk g1 fun u Hb2 H2 s2 g2 r2 => ?_)
          cases (g2.vw (r1.keep s2) v1).int
          cases (g2.vw r2 v2).int
          exact ⟨i, j, rfl, ⟨a1, a2, a3, a4⟩, post _ Hb2 H2 (s1.trans s2) g2 (Src.range i _)⟩
        · cases hl
      · cases hl
    · exact cI_of hp (ha δ _ e1 W σ Hb H _ tk g fun v Hb1 H1 s1 g1 r1 => hb δ1 _ e2 W σ Hb1 H1 _ tk g1 fun cv dd Hb2 H2 s2 g2 r2 => post cv dd Hb2 H2 (s1.trans s2) g2 r2)
  · exact cI_of hp (ha δ _ e1 W σ Hb H _ tk g post)
theorem ij_enu (o : XOk X k Ns sc N cf) {elts : List Expr} {kk : Nat} {tpos : Pos} {e : Expr} {p : Pos} {m : M R} (hg : glB sc "enumerate" = true) (hs : noStar e = true) (he : EJ N X e m) :
    IJ N X (.Tuple elts kk tpos) (.Call (.Name "enumerate" p) [e] [] pos) (M.bnd m fun r => M.bnd (give r) fun d => M.opt ((seqD d).map (enumD · 0))) := by
  have hm : X.mg "enumerate" = none := o.tab.blt _ (by decide)
  have hp1 : PI X (.Tuple elts kk tpos) (.Call (.Name "enumerate" p) [e] [] pos) (iEnum X.K (tCons (cE X e) tNil)) := pi_enum (o.gl hg) hm (pa_cons (pe_c e) pa_nil (star_ok hs)) (star_one hs)
  have hp2 : PI X (.Tuple elts kk tpos) (.Call (.Name "enumerate" p) [e] [] pos) (iEnumT X.K (tCons (cE X e) tNil)) := pi_enumT (o.gl hg) hm (pa_cons (pe_c e) pa_nil (star_ok hs)) (star_one hs)
  intro δ res h W σ Hb H R tk g post
  rcases M.bnd_ok h with ⟨r, δ1, e1, h⟩ | ⟨c, fs, δ1, e1, rfl⟩
  · rcases M.bnd_ok h with ⟨d, δ2, e2, h⟩ | ⟨c, fs, δ2, e2, rfl⟩
    · obtain ⟨l0, hl0, rfl⟩ := M.opt_ok h
      obtain ⟨l, hl, rfl⟩ := map_some hl0
      by_cases hd : ∃ l, d = .lst l
      · refine cI_of hp1 (he δ _ e1 W σ Hb H _ tk g fun v Hb1 H1 s1 g1 r1 => ?_)
        obtain ⟨d', δ', Hb2, q2, s2, g2, r2, _⟩ := g1.give s1 r1 e2
        cases q2
        obtain ⟨a, xs, rfl, rl, ⟨_, hs⟩ | ⟨hn, _⟩⟩ := seq_rep r2 hl
        · exact ⟨a, xs, rfl, hs _ g2.ex, post _ Hb2 H1 s2 g2 (Src.enumL rl hs)⟩
        · obtain ⟨l', rfl⟩ := hd
          exact absurd rfl (hn _)
      · refine cI_of hp2 (he δ _ e1 W σ Hb H _ tk g fun v Hb1 H1 s1 g1 r1 => ?_)
        obtain ⟨d', δ', Hb2, q2, s2, g2, r2, _⟩ := g1.give s1 r1 e2
        cases q2
        obtain ⟨a, xs, rfl, rl, ⟨hy, hs⟩ | ⟨hn, hs⟩⟩ := seq_rep r2 hl
        · exact absurd hy hd
        · exact ⟨a, xs, rfl, hs _ g2.ex, post _ Hb2 H1 s2 g2 (Src.enumT rl hs)⟩
    · refine cI_of hp1 (he δ _ e1 W σ Hb H _ tk g fun v Hb1 H1 s1 g1 r1 => ?_)
      obtain ⟨_, _, _, q2, _⟩ := g1.give s1 r1 e2
      cases q2
  · exact cI_of hp1 (he δ _ e1 W σ Hb H _ tk g post)
theorem ij_zip (o : XOk X k Ns sc N cf) {elts : List Expr} {kk : Nat} {tpos : Pos} {a b : Expr} {p : Pos} {ms : M (List R)} (hg : glB sc "zip" = true) (hs : noStar a = true) (hs2 : noStar b = true) (ha : AJ N X [a, b] ms) :
    IJ N X (.Tuple elts kk tpos) (.Call (.Name "zip" p) [a, b] [] pos) (M.bnd ms fun rs => M.bnd (gives rs) fun ds => M.opt (zipL ds)) := by
  have hm : X.mg "zip" = none := o.tab.blt _ (by decide)
  have hp : PI X (.Tuple elts kk tpos) (.Call (.Name "zip" p) [a, b] [] pos) (RZ.iZipA X.K (cA X [a, b])) := RZ.pi_zipA (o.gl hg) hm (pa_c _) (star_ok hs) (by rw [star_ok hs2]; rfl)
  intro δ res h W σ Hb H R tk g post
  rcases M.bnd_ok h with ⟨rs, δ1, e1, h⟩ | ⟨c, fs, δ1, e1, rfl⟩
  · rcases M.bnd_ok h with ⟨ds, δ2, e2, h⟩ | ⟨c, fs, δ2, e2, rfl⟩
    · obtain ⟨l, hl, rfl⟩ := M.opt_ok h
      refine cI_of hp (ha δ _ e1 W σ Hb H _ tk g fun vs Hb1 H1 s1 g1 r1 => ?_)
      obtain ⟨ds', δ', Hb2, q2, s2, g2, r2, _⟩ := g1.gives s1 r1 e2
      cases q2
      unfold zipL at hl
      split at hl
      · cases hl
        cases r2 with
        | cons ra r2 =>
          cases r2 with
          | cons rb r2 =>
            cases r2
            obtain ⟨a1, xs, rfl, r3, h3⟩ := lst_sq ra
            obtain ⟨b1, ys, rfl, r4, h4⟩ := lst_sq rb
            exact ⟨a1, b1, xs, ys, rfl, .inl ⟨.of (g2.ex _ _ h3), .of (g2.ex _ _ h4), post _ Hb2 H1 s2 g2 (Src.zipL r3 r4 (fun H ex => .of (ex _ _ h3)) fun H ex => .of (ex _ _ h4))⟩⟩
      · cases hl
        cases r2 with
        | cons ra r2 =>
          cases r2 with
          | cons rb r2 =>
            cases r2
            obtain ⟨a1, xs, rfl, r3, h3⟩ := tup_sq ra
            obtain ⟨b1, ys, rfl, r4, h4⟩ := tup_sq rb
            exact ⟨a1, b1, xs, ys, rfl, .inr ⟨h3 _ g2.ex, h4 _ g2.ex, post _ Hb2 H1 s2 g2 (Src.zipT r3 r4 h3 h4)⟩⟩
      · cases hl
    · refine cI_of hp (ha δ _ e1 W σ Hb H _ tk g fun vs Hb1 H1 s1 g1 r1 => ?_)
      obtain ⟨_, _, _, q2, _⟩ := g1.gives s1 r1 e2
      cases q2
  · exact cI_of hp (ha δ _ e1 W σ Hb H _ tk g post)
end
end Rl

set_option Elab.async false
set_option linter.all false
set_option maxRecDepth 100000
set_option maxHeartbeats 4000000
/-! Lay R: comprehensions. -/
namespace Rl
open PySem L2
section
variable {X : Cx} {k : Nat} {Ns : List Str} {sc scope : Scope} {N : Nm} {cf : Cfg} {pos : Pos}
theorem relS_eq {scope : Scope} {env : PySem.Env} {C : Addr} {cl : List (Str × Addr)} : (compEnvC scope cl C env).scope = relS scope env.scope := rfl
theorem XOk.blk (o : XOk X k Ns sc N cf) (hk : scope.kind = .function) {s : Shared} {H : Hp} {C : Addr} {cl : List (Str × Addr)} {fp : List Addr} : XOk (X.blk s H scope (compEnvC scope cl C X.env) fp) k Ns (relS scope sc) N cf where
  hN := o.hN
  hsc := by
    show (compEnvC scope cl C X.env).scope = _
    rw [relS_eq, o.hsc]
  nd := o.nd
  calm := o.calm
  room := o.room
  tab := o.tab
  kind := hk
/-- what nobody catches -/
def W0 : WX := fun _ _ _ _ => False
theorem takes_blk {s : Shared} {H : Hp} {env : PySem.Env} {fp : List Addr} : Takes (X.blk s H scope env fp) W0 := takes0
/-! ### targets -/
/-- the target of a comprehension: its names stand in the block -/
def rawB (scope : Scope) (x : Str) : Bool := match scope.names.lookup x with
  | some .local => true | some .cell => true | _ => false
theorem raw_loc {sc : Scope} {x : Str} (h : rawB scope x = true) : L2.Loc (relS scope sc) x := by
  unfold rawB at h
  cases e : scope.names.lookup x with
  | none => rw [e] at h; cases h
  | some k =>
    rw [e] at h
    cases k <;> first | cases h | skip
    · exact .inl (lookup_relS_keep (fun z => nomatch z) e)
    · exact .inr (lookup_relS_keep (fun z => nomatch z) e)
theorem raw_fn {sc : Scope} {x : Str} (h : rawB scope x = true) : (scope.names.lookup x == some .cell) = true ∨ (relS scope sc).names.lookup x = some .local := by
  unfold rawB at h
  cases e : scope.names.lookup x with
  | none => rw [e] at h; cases h
  | some k =>
    rw [e] at h
    cases k <;> first | cases h | skip
    · exact .inr (lookup_relS_keep (fun z => nomatch z) e)
    · exact .inl rfl
/-- a target's reading -/
def gMany (K : PySem.W.Frag) : List Nat → TG
  | l => gTup K l.length (gsOf l)
where gsOf : List Nat → TGs
  | [] => gNil
  | i :: l => gCons (gName i) (gsOf l)
def gOf (K : PySem.W.Frag) : MG → TG
  | .one i => gName i
  | .many l => gMany K l
/-- the target's text -/
def tgOk (Ns : List Str) (st : Str → Bool) : MG → Expr → Bool
  | .one i, .Name x _ => decide (Ns[i]? = some x) && st x
  | .many l, .Tuple es _ _ => tgsOk Ns st l es
  | _, _ => false
where tgsOk (Ns : List Str) (st : Str → Bool) : List Nat → List Expr → Bool
  | [], [] => true
  | i :: l, .Name x _ :: es => decide (Ns[i]? = some x) && st x && tgsOk Ns st l es
  | _, _ => false
theorem pg_of {st : Str → Bool} (o : XOk X k Ns sc N cf) (h1 : ∀ x, st x = true → L2.Loc X.env.scope x) (h2 : ∀ x, st x = true → X.fn x = true ∨ X.env.scope.names.lookup x = some .local) : ∀ {g : MG} {e : Expr}, tgOk Ns st g e = true → PG X e (gOf X.K g) := by
  have nm : ∀ {i : Nat} {x : Str} {p : Pos}, decide (Ns[i]? = some x) = true → st x = true → PG X (.Name x p) (gName i) := fun {i x p} a b =>
    pg_name (by rw [o.hN]; exact o.nd) (o.ix (of_decide_eq_true a)) (h1 x b) (h2 x b)
  intro g e h
  cases g with
  | one i =>
    cases e <;> first | cases h | skip
    rename_i x p
    have h := Bool.and_eq_true_iff.mp h
    exact nm h.1 h.2
  | many l =>
    cases e <;> first | cases h | skip
    rename_i es kk p
    have many : ∀ {l : List Nat} {es : List Expr}, tgOk.tgsOk Ns st l es = true → PGs X es (gMany.gsOf l) ∧ (assignEach es X.env).length = l.length ∧ (assignEach es X.env).findIdx? (·.1) = none ∧ (assignEach es X.env).all (fun y => !y.1) = true := by
      intro l
      induction l with
      | nil =>
        intro es h
        cases es with
        | nil => exact ⟨pgs_nil, rfl, rfl, rfl⟩
        | cons => cases h
      | cons i l ih =>
        intro es h
        cases es with
        | nil => cases h
        | cons e es =>
          cases e <;> first | cases h | skip
          rename_i x p
          have h := Bool.and_eq_true_iff.mp h
          have h' := Bool.and_eq_true_iff.mp h.1
          obtain ⟨a, b, c, d⟩ := ih h.2
          refine ⟨pgs_cons (nm h'.1 h'.2) a, ?_, ?_, ?_⟩
          · show (assignEach es X.env).length + 1 = l.length + 1
            rw [b]
          · show List.findIdx? _ ((false, assign (.Name x p) X.env) :: assignEach es X.env) = none
            rw [List.findIdx?_cons]
            simp only [Bool.false_eq_true, if_false]
            rw [c]
            rfl
          · show (!false && (assignEach es X.env).all fun y => !y.1) = true
            rw [d]
            rfl
    obtain ⟨a, b, c, _⟩ := many h
    exact pg_tup o.calm a b c

def gSl : MG → List Nat
  | .one i => [i]
  | .many l => l
/-- the state behind a target -/
structure Set2 (K : PySem.W.Frag) (N : Nm) (l : List Nat) (σ : L2.St) (δ : Env) (Hb H : Hp) (σ2 : L2.St) (δ2 : Env) : Prop where
  good : Good K N σ2 δ2 Hb H
  own : ∀ a, Own σ2 δ2 a → Own σ δ a
  out : ∀ i, i ∉ l → σ2[i]? = σ[i]?
  len : σ2.length = σ.length
theorem Set2.one {K : PySem.W.Frag} {σ : L2.St} {δ : Env} {Hb H : Hp} {v : V} {d : D} {i : Nat} (g : Good K N σ δ Hb H) (r : Rep K N Hb v d) : Set2 K N [i] σ δ Hb H (σ.set i (some v)) (δ.set i (some (.dat d))) where
  good := by
    refine ⟨g.ex, fun j e q => ?_, fun j e q => ?_, fun j k a e f n q1 q2 z1 z2 => ?_, by rw [List.length_set, List.length_set]; exact g.len⟩
    · rcases set_get q with ⟨rfl, z, hl⟩ | ⟨n, z⟩
      · cases z
        exact ⟨v, by rw [List.getElem?_set_self (by rw [g.len]; exact hl)], r⟩
      · obtain ⟨u, a, b⟩ := g.dat j e z
        exact ⟨u, by rw [List.getElem?_set_ne n]; exact a, b⟩
    · rcases set_get q with ⟨rfl, z, hl⟩ | ⟨n, z⟩
      · cases z
      · obtain ⟨p, u, a, b⟩ := g.own j e z
        exact ⟨p, u, by rw [List.getElem?_set_ne n]; exact a, b⟩
    · rcases set_get q1 with ⟨_, z, _⟩ | ⟨n1, y1⟩
      · cases z
      · rcases set_get q2 with ⟨_, z, _⟩ | ⟨n2, y2⟩
        · cases z
        · rw [List.getElem?_set_ne n1] at z1
          rw [List.getElem?_set_ne n2] at z2
          exact g.sep j k a e f n y1 y2 z1 z2
  own := fun a ⟨j, e, q, z⟩ => by
    rcases set_get q with ⟨_, y, _⟩ | ⟨n, y⟩
    · cases y
    · rw [List.getElem?_set_ne n] at z
      exact ⟨j, e, y, z⟩
  out := fun j n => by rw [List.getElem?_set_ne (fun z => n (by simp [z]))]
  len := List.length_set ..
theorem Set2.stp {K : PySem.W.Frag} {l : List Nat} {σ σ2 : L2.St} {δ δ2 : Env} {Hb H : Hp} (s : Set2 K N l σ δ Hb H σ2 δ2) : Stp σ δ Hb H σ2 δ2 Hb H :=
  ⟨Ex.refl _, fun _ h _ => .inl h, fun _ _ h _ => h, fun _ h => h, fun a h => .inl (s.own a h)⟩
theorem gs_ok {K : PySem.W.Frag} {Hb H : Hp} : ∀ (l : List Nat) {vs : List V} {ds : List D} {σ : L2.St} {δ : Env} {Q : L2.St → Hp → Prop}, Good K N σ δ Hb H → RepL K N Hb vs ds → ds.length = l.length →
    (∀ σ2, Set2 K N l σ δ Hb H σ2 ((l.zip ds).foldl (fun δ p => δ.set p.1 (some (.dat p.2))) δ) → Q σ2 H) → gMany.gsOf l vs σ H Q
  | [], vs, ds, σ, δ, Q, g, r, hl, q => by
    cases ds with
    | cons => cases hl
    | nil =>
      cases r
      exact ⟨rfl, q σ ⟨g, fun _ z => z, fun _ _ => rfl, rfl⟩⟩
  | i :: l, vs, ds, σ, δ, Q, g, r, hl, q => by
    cases r with
    | nil => cases hl
    | @cons v d vs ds a b =>
      refine ⟨v, vs, rfl, ?_⟩
      have s1 := Set2.one (i := i) g a
      show gMany.gsOf l vs (σ.set i (some v)) H Q
      refine gs_ok l s1.good b (by simpa using hl) fun σ2 s2 => q σ2 ⟨s2.good, fun x z => s1.own x (s2.own x z), fun j n => ?_, s2.len.trans s1.len⟩
      rw [s2.out j (fun z => n (List.mem_cons_of_mem _ z)), s1.out j (fun z => n (by rw [List.mem_singleton.mp z]; exact List.mem_cons_self))]
theorem setG_ok {K : PySem.W.Frag} {g : MG} {v : V} {d : D} {σ : L2.St} {δ δ2 : Env} {Hb H : Hp} {Q : L2.St → Hp → Prop} (gd : Good K N σ δ Hb H) (r : Rep K N Hb v d) (e : setG g d δ = some δ2) (q : ∀ σ2, Set2 K N (gSl g) σ δ Hb H σ2 δ2 → Q σ2 H) : gOf K g v σ H Q := by
  cases g with
  | one i =>
    unfold setG at e
    dsimp only at e
    split at e
    · cases (Option.some.inj e)
      exact q _ (Set2.one gd r)
    · cases e
  | many l =>
    unfold setG at e
    dsimp only at e
    split at e
    · rename_i ds
      split at e
      · rename_i hc
        cases (Option.some.inj e)
        cases r with
        | @tup a xs _ h rl =>
          exact ⟨a, xs, rfl, .of (gd.ex _ _ h), by rw [RepL.length rl]; exact hc.1, gs_ok l gd rl hc.1 q⟩
      · cases e
    · cases e

/-! ### slots wiped -/
theorem wipe_out {σ : L2.St} {i : Nat} : ∀ {vs : List Nat}, i ∉ vs → (wipe σ vs)[i]? = σ[i]?
  | [], _ => rfl
  | v :: vs, h => by
    unfold wipe
    rw [List.getElem?_set_ne (fun z => h (by simp [z]))]
    exact wipe_out fun z => h (List.mem_cons_of_mem _ z)
theorem wipe_in {σ : L2.St} {i : Nat} : ∀ {vs : List Nat}, i ∈ vs → i < σ.length → (wipe σ vs)[i]? = some none
  | [], h, _ => by cases h
  | v :: vs, h, hl => by
    unfold wipe
    by_cases e : v = i
    · subst e
      rw [List.getElem?_set_self (by rw [wipe_length]; exact hl)]
    · rw [List.getElem?_set_ne e]
      exact wipe_in (by rcases List.mem_cons.mp h with z | z; exact absurd z.symm e; exact z) hl
theorem wipe_eq {σ σ2 : L2.St} {vs : List Nat} (hl : σ2.length = σ.length) (h : ∀ i, i ∉ vs → σ2[i]? = σ[i]?) : wipe σ2 vs = wipe σ vs := by
  apply List.ext_getElem?
  intro i
  by_cases m : i ∈ vs
  · by_cases l : i < σ.length
    · rw [wipe_in m (by rw [hl]; exact l), wipe_in m l]
    · rw [List.getElem?_eq_none (by rw [wipe_length, hl]; omega), List.getElem?_eq_none (by rw [wipe_length]; omega)]
  · rw [wipe_out m, wipe_out m, h i m]
theorem wipeD_len (δ : Env) : ∀ vs : List Nat, (wipeD δ vs).length = δ.length
  | [] => rfl
  | v :: vs => by unfold wipeD; rw [List.length_set, wipeD_len δ vs]
theorem wipeD_some {δ : Env} {i : Nat} {b : B} : ∀ {vs : List Nat}, (wipeD δ vs)[i]? = some (some b) → δ[i]? = some (some b) ∧ i ∉ vs
  | [], h => ⟨h, by simp⟩
  | v :: vs, h => by
    unfold wipeD at h
    rcases set_get h with ⟨_, z, _⟩ | ⟨n, z⟩
    · cases z
    · obtain ⟨a, b⟩ := wipeD_some z
      exact ⟨a, by simp only [List.mem_cons, not_or]; exact ⟨fun e => n e.symm, b⟩⟩
theorem wipeD_out {δ : Env} {i : Nat} : ∀ {vs : List Nat}, i ∉ vs → (wipeD δ vs)[i]? = δ[i]?
  | [], _ => rfl
  | v :: vs, h => by
    unfold wipeD
    rw [List.getElem?_set_ne (fun z => h (by simp [z]))]
    exact wipeD_out fun z => h (List.mem_cons_of_mem _ z)
theorem backD_some {δ0 δ1 : Env} {i : Nat} {b : B} : ∀ {vs : List Nat}, (backD δ0 δ1 vs)[i]? = some (some b) → (i ∈ vs ∧ δ0[i]? = some (some b)) ∨ (i ∉ vs ∧ δ1[i]? = some (some b))
  | [], h => .inr ⟨by simp, h⟩
  | v :: vs, h => by
    unfold backD at h
    rcases set_get h with ⟨rfl, z, _⟩ | ⟨n, z⟩
    · refine .inl ⟨List.mem_cons_self, ?_⟩
      rw [List.getD_eq_getElem?_getD] at z
      cases q : δ0[v]? with
      | none => rw [q] at z; cases z
      | some y => rw [q] at z; exact congrArg some z
    · rcases backD_some z with ⟨a, c⟩ | ⟨a, c⟩
      · exact .inl ⟨List.mem_cons_of_mem _ a, c⟩
      · exact .inr ⟨by simp only [List.mem_cons, not_or]; exact ⟨fun e => n e.symm, a⟩, c⟩
theorem backD_len {δ0 δ1 : Env} : ∀ (vs : List Nat), (backD δ0 δ1 vs).length = δ1.length
  | [] => rfl
  | v :: vs => by unfold backD; rw [List.length_set, backD_len vs]
section
variable {K : PySem.W.Frag} {σ σ2 : L2.St} {δ δ0 δ' : Env} {Hb Hb0 H H0 : Hp} {vs : List Nat}
theorem own_wipe {a : Addr} (h : Own (wipe σ vs) (wipeD δ vs) a) : Own σ δ a := by
  obtain ⟨i, d, h1, h2⟩ := h
  exact ⟨i, d, (wipeD_some h1).1, (wipe_some h2).1⟩
theorem Good.wipe (g : Good K N σ δ Hb H) : Good K N (wipe σ vs) (wipeD δ vs) Hb H := by
  refine ⟨g.ex, fun i d q => ?_, fun i d q => ?_, fun i j a d e n q1 q2 z1 z2 => ?_, by rw [wipe_length, wipeD_len]; exact g.len⟩
  · obtain ⟨q1, m⟩ := wipeD_some q
    obtain ⟨v, a, b⟩ := g.dat i d q1
    exact ⟨v, by rw [wipe_out m]; exact a, b⟩
  · obtain ⟨q1, m⟩ := wipeD_some q
    obtain ⟨p, u, a, b⟩ := g.own i d q1
    exact ⟨p, u, by rw [wipe_out m]; exact a, b⟩
  · exact g.sep i j a d e n (wipeD_some q1).1 (wipeD_some q2).1 (wipe_some z1).1 (wipe_some z2).1
theorem Stp.wipe : Stp σ δ Hb H (wipe σ vs) (wipeD δ vs) Hb H := ⟨Ex.refl _, fun _ h _ => .inl h, fun _ _ h _ => h, fun _ h => h, fun _ h => .inl (own_wipe h)⟩
theorem own_back {a : Addr} (hn : vs.any (ownAt δ0) = false) (h : Own σ (backD δ0 δ' vs) a) : Own (L2.wipe σ vs) (wipeD δ' vs) a := by
  obtain ⟨i, d, h1, h2⟩ := h
  rcases backD_some h1 with ⟨m, z⟩ | ⟨m, z⟩
  · have := List.any_eq_false.mp hn i m
    unfold ownAt at this
    rw [z] at this
    exact absurd rfl this
  · exact ⟨i, d, by rw [wipeD_out m]; exact z, by rw [wipe_out m]; exact h2⟩
theorem Good.back (hn : vs.any (ownAt δ0) = false) (g0 : Good K N σ δ0 Hb0 H0) (x : Ex Hb0 Hb) (g : Good K N (L2.wipe σ vs) (wipeD δ' vs) Hb H) : Good K N σ (backD δ0 δ' vs) Hb H := by
  have nv : ∀ {i : Nat} {d : D}, (backD δ0 δ' vs)[i]? = some (some (.own d)) → i ∉ vs ∧ δ'[i]? = some (some (.own d)) := fun {i d} q => by
    rcases backD_some q with ⟨m, z⟩ | z
    · have := List.any_eq_false.mp hn i m
      unfold ownAt at this
      rw [z] at this
      exact absurd rfl this
    · exact z
  refine ⟨g.ex, fun i d q => ?_, fun i d q => ?_, fun i j a d e n q1 q2 z1 z2 => ?_, ?_⟩
  · rcases backD_some q with ⟨m, z⟩ | ⟨m, z⟩
    · obtain ⟨v, a, b⟩ := g0.dat i d z
      exact ⟨v, a, b.mono x⟩
    · obtain ⟨v, a, b⟩ := g.dat i d (by rw [wipeD_out m]; exact z)
      exact ⟨v, (wipe_some a).1, b⟩
  · obtain ⟨m, z⟩ := nv q
    obtain ⟨p, u, a, b⟩ := g.own i d (by rw [wipeD_out m]; exact z)
    exact ⟨p, u, (wipe_some a).1, b⟩
  · obtain ⟨m1, y1⟩ := nv q1
    obtain ⟨m2, y2⟩ := nv q2
    exact g.sep i j a d e n (by rw [wipeD_out m1]; exact y1) (by rw [wipeD_out m2]; exact y2) (by rw [wipe_out m1]; exact z1) (by rw [wipe_out m2]; exact z2)
  · have := g.len
    rw [wipe_length, wipeD_len] at this
    rw [backD_len]
    exact this
theorem Stp.back (hn : vs.any (ownAt δ0) = false) (s : Stp (L2.wipe σ vs) (wipeD δ0 vs) Hb0 H0 (L2.wipe σ vs) (wipeD δ' vs) Hb H) : Stp σ δ0 Hb0 H0 σ (backD δ0 δ' vs) Hb H where
  hb := s.hb
  fresh := fun a h n => by
    rcases s.fresh a h n with z | z
    · exact .inl z
    · exact .inr (own_wipe z)
  frame := fun a o h n => s.frame a o h fun z => n (own_wipe z)
  dom := s.dom
  own := fun a h => by
    rcases s.own a (own_back hn h) with z | z
    · exact .inl (own_wipe z)
    · exact .inr z
/-- a new thing that nobody owns may change -/
theorem Stp.mutNew {σ' : L2.St} {δ' : Env} {Hb' H' : Hp} {p : Addr} {o : HO} (s : Stp σ δ Hb H σ' δ' Hb' H') (h : H p = none) : Stp σ δ Hb H σ' δ' Hb' (upd H' p o) where
  hb := s.hb
  fresh := s.fresh
  frame := fun a u q n => by rw [upd_ne (ne_of_none q h)]; exact s.frame a u q n
  dom := fun a q => by
    by_cases z : a = p
    · subst z; exact absurd h q
    · rw [upd_ne z]; exact s.dom a q
  own := s.own
theorem Good.mutNew {p : Addr} {o : HO} (g : Good K N σ δ Hb H) (hb : Hb p = none) (no : ¬ Own σ δ p) : Good K N σ δ Hb (upd H p o) := by
  refine ⟨Ex.mut g.ex hb, g.dat, fun i d q => ?_, g.sep, g.len⟩
  obtain ⟨a, u, e1, e2, e3, e4⟩ := g.own i d q
  refine ⟨a, u, e1, e2, ?_, e4⟩
  rw [upd_ne]
  · exact e3
  · rintro rfl; exact no ⟨i, d, q, e1⟩
/-- the thing stays nobody's, and as it is -/
theorem Stp.stays {σ' : L2.St} {δ' : Env} {Hb' H' : Hp} {p : Addr} {o : HO} (s : Stp σ δ Hb H σ' δ' Hb' H') (h : H p = some o) (hb : Hb p = none) (no : ¬ Own σ δ p) : H' p = some o ∧ Hb' p = none ∧ ¬ Own σ' δ' p := by
  refine ⟨s.frame p o h no, ?_, fun z => ?_⟩
  · rcases s.fresh p hb (ne_none h) with q | q
    · exact q
    · exact absurd q no
  · rcases s.own p z with q | q
    · exact no q
    · rw [h] at q; cases q
end
end
end Rl

set_option Elab.async false
set_option linter.all false
set_option maxRecDepth 100000
set_option maxHeartbeats 4000000
/-! Lay S: comprehensions, the rules. -/
namespace Rl
open PySem L2
section
variable {X : Cx} {k : Nat} {Ns : List Str} {sc scope : Scope} {N : Nm} {cf : Cfg} {pos : Pos}
def cTs (X : Cx) (ifs : List Expr) : TT := fun σ H Q => ∀ pins s, Inv X pins σ H s →
  wpAny (model X.prog X.w) X.A (forIn ifs true fun c r => if r = true then do let ok ← isTrue c X.env (eval c X.env); pure (ForInStep.yield ok) else pure (ForInStep.yield r)) (TP X pins σ Q) X.xe s
theorem pts_c (ifs : List Expr) : PTs X ifs (cTs X ifs) := ⟨fun pins s σ H Q I h => h pins s I⟩
theorem cTs_of {ifs : List Expr} {t : TT} (h : PTs X ifs t) {σ : L2.St} {H : Hp} {Q : Bool → Hp → Prop} (q : t σ H Q) : cTs X ifs σ H Q := fun pins s I => h.run pins s σ H Q I q
def CdJ (N : Nm) (X : Cx) (ifs : List Expr) (m : M Bool) : Prop :=
  ∀ δ res, m δ = some res → ∀ (W : WX) σ Hb H Q, Takes X W → Good X.K N σ δ Hb H → TPost X.K N W σ δ Hb H Q res → cTs X ifs σ H Q
theorem cd_nil : CdJ N X [] (M.ret true) := fun δ res h W σ Hb H Q tk g post => by
  cases (Option.some.inj h)
  exact cTs_of pts_nil (post Hb H Stp.refl g)
theorem cd_one {c : Expr} {m : M Bool} (h : TJ N X c m) : CdJ N X [c] m := fun δ res h1 W σ Hb H Q tk g post => cTs_of (pts_one (pt_c c)) (h δ res h1 W σ Hb H Q tk g post)
/-- in all blocks of the scope -/
def Blk (X : Cx) (scope : Scope) (P : Cx → Prop) : Prop := ∀ (s : Shared) (H : Hp) (C : Addr) (cl : List (Str × Addr)) (fp : List Addr), P (X.blk s H scope (compEnvC scope cl C X.env) fp)
def uE (X : Cx) (scope : Scope) (e : Expr) : TE := fun σ H Q => Blk X scope fun Y => cE Y e σ H Q
def uTs (X : Cx) (scope : Scope) (e : List Expr) : TT := fun σ H Q => Blk X scope fun Y => cTs Y e σ H Q
theorem noEx_some {α : Type} {x : Option (Res α)} {p : α × Env} (h : noEx x = some p) : x = some (.ok p.1 p.2) := by
  unfold noEx at h
  split at h
  · cases (Option.some.inj h); rfl
  · cases h
theorem compLoop_len {α : Type} {turn : D → M (Option α)} {vs : List Nat} : ∀ {items : List D} {δ : Env} {acc l : List α} {δ' : Env}, compLoop turn vs items δ acc = some (l, δ') → acc.length ≤ l.length
  | [], δ, acc, l, δ', h => by unfold compLoop at h; cases (Option.some.inj h); exact Nat.le_refl _
  | d :: r, δ, acc, l, δ', h => by
    unfold compLoop at h
    split at h
    · have := compLoop_len h
      rw [List.length_append, List.length_singleton] at this
      omega
    · exact compLoop_len h
    · cases h
theorem foldedOk {iter : Expr} {env : PySem.Env} (h : noSet iter = true) : ∀ x, foldedSetIterable iter env x = pure x := by
  intro x
  cases iter <;> first | rfl | cases h
/-- an item comes -/
theorem yld_ok {K : PySem.W.Frag} {σ : L2.St} {δ : Env} {Hb H H' : Hp} {x : V} {d : D} (g : Good K N σ δ Hb H) (y : (H' = H ∧ Rep K N Hb x d) ∨ ∃ T o, x = .ref T ∧ H T = none ∧ H' = upd H T o ∧ Rep K N (upd Hb T o) x d) :
    ∃ Hb', Good K N σ δ Hb' H' ∧ Stp σ δ Hb H σ δ Hb' H' ∧ Rep K N Hb' x d := by
  rcases y with ⟨rfl, r⟩ | ⟨T, o, rfl, hT, rfl, r⟩
  · exact ⟨Hb, g, Stp.refl, r⟩
  · have hb := hb_none g hT
    have no : ¬ Own σ δ T := fun z => own_ltK g z hT
    refine ⟨upd Hb T o, (g.laid hT).froz upd_same hb no, ⟨Ex.new hb, fun a h n => .inl ?_, (Stp.laid (σ := σ) (δ := δ) (Hb := Hb) hT).frame, (Stp.laid (σ := σ) (δ := δ) (Hb := Hb) hT).dom, fun _ z => .inl z⟩, r⟩
    rw [upd_ne]
    · exact h
    · rintro rfl; exact n hT
theorem drop_cons {α : Type} {l : List α} {i : Nat} (h : i < l.length) : l.drop i = l[i] :: l.drop (i + 1) := List.drop_eq_getElem_cons h
theorem Src.mono {K : PySem.W.Frag} {J : It} {ds : List D} {Hb Hb' : Hp} (s : Src K N J ds Hb) (x : Ex Hb Hb') : Src K N J ds Hb' where
  go := fun i H hi ex => s.go i H hi (x.trans ex)
  stop := fun H ex => s.stop H (x.trans ex)
  yld := fun i H v H' d hd ex y => by
    rcases s.yld i H v H' d hd (x.trans ex) y with ⟨a, b⟩ | ⟨T, o, a, b, c, r⟩
    · exact .inl ⟨a, b.mono x⟩
    · refine .inr ⟨T, o, a, b, c, r.mono fun p u q => ?_⟩
      by_cases z : p = T
      · subst z; rw [upd_same] at q ⊢; exact q
      · rw [upd_ne z] at q ⊢; exact x p u q
theorem lc_pe (o : XOk X k Ns sc N cf) {elt tg iter : Expr} {ifs : List Expr} {own : List (Str × Nat)} {g : MG} (hk : scope.kind = .function) (hb : blkC Ns sc scope own = true)
    (htg : tgOk Ns (rawB scope) g tg = true) (hs : noSet iter = true) : PE X (.ListComp elt [⟨tg, iter, ifs, 0⟩] scope pos) (tLc (cI X tg iter) (gOf X.K g) (uTs X scope ifs) (uE X scope elt) (own.map (·.2))) := by
  refine pe_lc o.calm (by rw [o.hN]; exact o.nd) (pi_c tg iter) (by rw [o.hN, o.hsc]; exact blkOk_by hb) (fun s H C cl fp => ?_) (fun s H C cl fp => ⟨fun pins s' σ H' Q I h => h s H C cl fp pins s' I⟩) (fun s H C cl fp => ⟨fun pins s' σ H' Q I h => h s H C cl fp pins s' I⟩) (foldedOk hs)
  refine pg_of (o.blk hk) (fun x hx => ?_) (fun x hx => ?_) htg
  · show L2.Loc (compEnvC scope cl C X.env).scope x
    rw [relS_eq, o.hsc]
    exact raw_loc hx
  · show (scope.names.lookup x == some .cell) = true ∨ (compEnvC scope cl C X.env).scope.names.lookup x = some .local
    rw [relS_eq, o.hsc]
    exact raw_fn hx
theorem lc_rd {elt tg iter : Expr} {ifs : List Expr} {own : List (Str × Nat)} {g : MG} {mi : M (List D)} {mc : M Bool} {me : M R}
    (hin : ∀ i ∈ gSl g, i ∈ own.map (·.2)) (hi : IJ N X tg iter mi) (hc : Blk X scope fun Y => CdJ N Y ifs mc) (he : Blk X scope fun Y => EJ N Y elt me) :
    ∀ δ res, (M.bnd mi fun items => M.bnd (comp (lcTurn g mc me) (own.map (·.2)) items) fun l => if szOk l.length then M.ret (.own (.lst l)) else M.stuck) δ = some res → ∀ (W : WX) σ Hb H Q, Takes X W → Good X.K N σ δ Hb H → EPost X.K N W σ δ Hb H Q res →
      tLc (cI X tg iter) (gOf X.K g) (uTs X scope ifs) (uE X scope elt) (own.map (·.2)) σ H Q := by
  generalize hvs : own.map (·.2) = vs at hin ⊢
  intro δ res h W σ Hb H Q tk gd post
  rcases M.bnd_ok h with ⟨items, δ1, e1, h⟩ | ⟨c, fs, δ1, e1, rfl⟩
  · rcases M.bnd_ok h with ⟨l, δ2, e2, h⟩ | ⟨c, fs, δ2, e2, rfl⟩
    · split at h
      · rename_i hz
        cases (Option.some.inj h)
        unfold comp at e2
        split at e2
        · cases e2
        · rename_i hown
          have hown : vs.any (ownAt δ1) = false := by simpa using hown
          split at e2
          · rename_i l' δ' hloop
            cases (Option.some.inj e2)
            refine (hi δ _ e1 W σ Hb H _ tk gd fun J Hb1 H1 s1 g1 src pD hD => ?_)
            refine ⟨fun i m HH => m = items.length - i ∧ i ≤ items.length ∧ ∃ δi acc Hbi xs, compLoop (lcTurn g mc me) vs (items.drop i) δi acc = some (l, δ') ∧ Good X.K N (L2.wipe σ vs) (wipeD δi vs) Hbi HH ∧
              Stp (L2.wipe σ vs) (wipeD δ1 vs) Hb1 H1 (L2.wipe σ vs) (wipeD δi vs) Hbi HH ∧ HH pD = some (.lst xs) ∧ RepL X.K N Hbi xs acc ∧ Hbi pD = none ∧ ¬ Own (L2.wipe σ vs) (wipeD δi vs) pD, ⟨items.length, by simp, Nat.zero_le _, δ1, [], Hb1, [], hloop, ?_, Stp.laid hD, upd_same, .nil, hb_none g1 hD, ?_⟩, ?_⟩
            · exact (g1.wipe).laid hD
            · exact fun z => own_ltK g1 (own_wipe z) hD
            rintro i m HH ⟨rfl, hi', δi, acc, Hbi, xs, hlp, gi, si, hDi, ri, hbD, noD⟩
            by_cases hlt : i < items.length
            · refine .inr ⟨src.go i HH hlt (si.hb.trans gi.ex), fun H' => ∃ δi acc Hbi xs, compLoop (lcTurn g mc me) vs (items.drop (i + 1)) δi acc = some (l, δ') ∧ Good X.K N (L2.wipe σ vs) (wipeD δi vs) Hbi H' ∧
                Stp (L2.wipe σ vs) (wipeD δ1 vs) Hb1 H1 (L2.wipe σ vs) (wipeD δi vs) Hbi H' ∧ H' pD = some (.lst xs) ∧ RepL X.K N Hbi xs acc ∧ Hbi pD = none ∧ ¬ Own (L2.wipe σ vs) (wipeD δi vs) pD, fun H' q => ⟨items.length - (i + 1), by omega, rfl, hlt, q⟩, fun x H' y => ?_⟩
              obtain ⟨Hb2, g2, s2, r2⟩ := yld_ok gi ((src.mono si.hb).yld i HH x H' _ (List.getElem?_eq_getElem hlt) gi.ex y)
              rw [drop_cons hlt] at hlp
              unfold compLoop at hlp
              have fin : ∀ {σ2 : L2.St} {δ2 δ3 : Env} {Hb3 H3 : Hp} {ys : List V} {acc2 : List D} {Hd : Hp}, σ2.length = σ.length → (∀ j, j ∉ vs → σ2[j]? = (L2.wipe σ vs)[j]?) → Good X.K N σ2 δ3 Hb3 H3 → Stp (L2.wipe σ vs) (wipeD δi vs) Hbi HH σ2 δ3 Hb3 H3 → H3 pD = some (.lst xs) → Hb3 pD = none → ¬ Own σ2 δ3 pD →
                  RepL X.K N Hb3 ys acc2 → (Hd = H3 ∧ ys = xs ∨ Hd = upd H3 pD (.lst ys)) → compLoop (lcTurn g mc me) vs (items.drop (i + 1)) δ3 acc2 = some (l, δ') →
                  ∃ δi acc Hbi xs, compLoop (lcTurn g mc me) vs (items.drop (i + 1)) δi acc = some (l, δ') ∧ Good X.K N (L2.wipe σ vs) (wipeD δi vs) Hbi Hd ∧
                    Stp (L2.wipe σ vs) (wipeD δ1 vs) Hb1 H1 (L2.wipe σ vs) (wipeD δi vs) Hbi Hd ∧ Hd pD = some (.lst xs) ∧ RepL X.K N Hbi xs acc ∧ Hbi pD = none ∧ ¬ Own (L2.wipe σ vs) (wipeD δi vs) pD := by
                intro σ2 δ2 δ3 Hb3 H3 ys acc2 Hd hl2 ho2 g3 s3 hD3 hb3 no3 r3 hd hlp3
                have ew : L2.wipe σ2 vs = L2.wipe σ vs := by
                  refine wipe_eq hl2 fun j hj => ?_
                  rw [ho2 j hj, wipe_out hj]
                have g4 : Good X.K N (L2.wipe σ vs) (wipeD δ3 vs) Hb3 H3 := by rw [← ew]; exact g3.wipe
                have no4 : ¬ Own (L2.wipe σ vs) (wipeD δ3 vs) pD := fun z => no3 (by rw [← ew] at z; exact own_wipe z)
                have s4 : Stp (L2.wipe σ vs) (wipeD δ1 vs) Hb1 H1 (L2.wipe σ vs) (wipeD δ3 vs) Hb3 H3 := by
                  have := (si.trans s3).trans (Stp.wipe (vs := vs))
                  rw [ew] at this
                  exact this
                rcases hd with ⟨rfl, rfl⟩ | rfl
                · exact ⟨δ3, acc2, Hb3, ys, hlp3, g4, s4, hD3, r3, hb3, no4⟩
                · exact ⟨δ3, acc2, Hb3, ys, hlp3, g4.mutNew hb3 no4, s4.mutNew hD, upd_same, r3, hb3, no4⟩
              generalize ht : lcTurn g mc me items[i] (wipeD δi vs) = tr at hlp
              unfold lcTurn at ht
              split at ht
              · rename_i δ2 hset
                refine setG_ok g2 r2 hset fun σ2 z2 => ?_
                have hl2 : σ2.length = σ.length := z2.len.trans (wipe_length _ _)
                have ho2 : ∀ j, j ∉ vs → σ2[j]? = (L2.wipe σ vs)[j]? := fun j hj => z2.out j fun z => hj (hin j z)
                refine ⟨by rw [wipe_eq hl2 fun j hj => by rw [ho2 j hj, wipe_out hj]], ?_⟩
                have s3 := s2.trans z2.stp
                obtain ⟨tD, tb, tn⟩ := s3.stays hDi hbD noD
                have okTest : ∀ {b : Bool} {δ3 : Env}, mc δ2 = some (.ok b δ3) → ∀ {Q' : Bool → Hp → Prop}, (∀ Hb3 H3, Stp σ2 δ2 Hb2 H' σ2 δ3 Hb3 H3 → Good X.K N σ2 δ3 Hb3 H3 → Q' b H3) → uTs X scope ifs σ2 H' Q' := fun {b δ3} em {Q'} q s0 H0 C0 cl0 fp0 =>
                  hc s0 H0 C0 cl0 fp0 δ2 _ em W0 σ2 Hb2 H' Q' takes_blk z2.good q
                cases hmc : mc δ2 with
                | none => unfold M.bnd at ht; rw [hmc] at ht; subst ht; cases hlp
                | some rt =>
                  cases rt with
                  | ex c fs δx => unfold M.bnd at ht; rw [hmc] at ht; subst ht; cases hlp
                  | ok b δ3 =>
                    unfold M.bnd at ht
                    rw [hmc] at ht
                    dsimp only at ht
                    refine okTest hmc fun Hb3 H3 s4 g4 => ?_
                    have s5 := s3.trans s4
                    obtain ⟨uD, ub, un⟩ := s5.stays hDi hbD noD
                    cases b with
                    | false =>
                      have ht' : some (Res.ok (none : Option D) δ3) = tr := ht
                      subst ht'
                      exact fin (δ2 := δ2) hl2 ho2 g4 s5 uD ub un (ri.mono s5.hb) (.inl ⟨rfl, rfl⟩) hlp
                    | true =>
                      have ht' : M.bnd me (fun r => M.bnd (give r) fun d => M.ret (some d)) δ3 = tr := ht
                      cases tr with
                      | none => cases hlp
                      | some rt =>
                      rcases M.bnd_ok ht' with ⟨r, δ4, e4, h4⟩ | ⟨c, fs, δ4, e4, rfl⟩
                      · rcases M.bnd_ok h4 with ⟨d, δ5, e5, h5⟩ | ⟨c, fs, δ5, e5, rfl⟩
                        · cases (Option.some.inj h5)
                          have hlp' : compLoop (lcTurn g mc me) vs (items.drop (i + 1)) δ5 (acc ++ [d]) = some (l, δ') := hlp
                          show uE X scope elt σ2 H3 _
                          intro s0 H0 C0 cl0 fp0
                          refine he s0 H0 C0 cl0 fp0 δ3 _ e4 W0 σ2 Hb3 H3 _ takes_blk g4 fun v Hb4 H4 s6 g6 r6 => ?_
                          obtain ⟨d', δ5', Hb5, q5, s7, g7, r7, x7, k7, o7, _⟩ := g6.give s6 r6 e5
                          cases q5
                          have s8 := s5.trans s7
                          obtain ⟨vD, vb, vn⟩ := s8.stays hDi hbD noD
                          refine ⟨xs, vD, ?_, ?_⟩
                          · have h1 := compLoop_len hlp'
                            rw [List.length_append, List.length_singleton] at h1
                            have h2 := szOk_le hz
                            have h3 := RepL.length ri
                            omega
                          · exact fin (δ2 := δ2) hl2 ho2 g7 s8 vD vb vn ((ri.mono s8.hb).app (.cons r7 .nil)) (.inr rfl) hlp'
                        · have z := hlp; cases z
                      · have z := hlp; cases z
              · subst ht; cases hlp
            · have hi2 : i = items.length := by omega
              subst hi2
              refine .inl ⟨src.stop HH (si.hb.trans gi.ex), ?_⟩
              rw [List.drop_length] at hlp
              unfold compLoop at hlp
              cases (Option.some.inj hlp)
              refine post _ Hbi HH (s1.trans (Stp.back hown si)) (Good.back hown g1 si.hb gi) ⟨pD, _, rfl, ?_, hbD, hDi, .lst ri, fun z => noD (own_back hown z)⟩
              cases q : H pD with
              | none => rfl
              | some u => exact absurd hD (s1.dom pD (ne_none q))
          · cases e2
      · cases h
    · unfold comp at e2
      split at e2
      · cases e2
      · split at e2
        · cases e2
        · cases e2
  · exact (hi δ _ e1 W σ Hb H _ tk gd post)
theorem ej_lc (o : XOk X k Ns sc N cf) {elt tg iter : Expr} {ifs : List Expr} {own : List (Str × Nat)} {g : MG} {mi : M (List D)} {mc : M Bool} {me : M R} (hk : scope.kind = .function) (hb : blkC Ns sc scope own = true)
    (htg : tgOk Ns (rawB scope) g tg = true) (hin : ∀ i ∈ gSl g, i ∈ own.map (·.2)) (hs : noSet iter = true) (hi : IJ N X tg iter mi) (hc : Blk X scope fun Y => CdJ N Y ifs mc) (he : Blk X scope fun Y => EJ N Y elt me) :
    EJ N X (.ListComp elt [⟨tg, iter, ifs, 0⟩] scope pos) (M.bnd mi fun items => M.bnd (comp (lcTurn g mc me) (own.map (·.2)) items) fun l => if szOk l.length then M.ret (.own (.lst l)) else M.stuck) :=
  fun δ res h W σ Hb H Q tk gd post => cE_of (lc_pe o hk hb htg hs) (lc_rd hin hi hc he δ res h W σ Hb H Q tk gd post)
end
end Rl

set_option Elab.async false
set_option linter.all false
set_option maxRecDepth 100000
set_option maxHeartbeats 4000000
/-! Lay T: dict comprehensions. -/
namespace Rl
open PySem L2
section
variable {X : Cx} {k : Nat} {Ns : List Str} {sc scope : Scope} {N : Nm} {cf : Cfg} {pos : Pos}
theorem compLoop_pre {α : Type} {turn : D → M (Option α)} {vs : List Nat} : ∀ {items : List D} {δ : Env} {acc l : List α} {δ' : Env}, compLoop turn vs items δ acc = some (l, δ') → ∃ t, l = acc ++ t
  | [], δ, acc, l, δ', h => by unfold compLoop at h; cases (Option.some.inj h); exact ⟨[], by simp⟩
  | d :: r, δ, acc, l, δ', h => by
    unfold compLoop at h
    split at h
    · obtain ⟨t, ht⟩ := compLoop_pre h
      exact ⟨_ :: t, by rw [ht, List.append_assoc]; rfl⟩
    · exact compLoop_pre h
    · cases h
theorem dcPut_app : ∀ (a b s : List (Key × D)), dcPut s (a ++ b) = (dcPut s a).bind fun s' => dcPut s' b
  | [], b, s => rfl
  | p :: a, b, s => by
    show (if szOk (s.length + 1) then dcPut (putKD s p.1 p.2) (a ++ b) else none) = (if szOk (s.length + 1) then dcPut (putKD s p.1 p.2) a else none).bind fun s' => dcPut s' b
    by_cases h : szOk (s.length + 1) = true
    · rw [if_pos h, if_pos h]; exact dcPut_app a b _
    · rw [if_neg h, if_neg h]; rfl
theorem dcPut_snoc {acc t : List (Key × D)} {kvs f : List (Key × D)} {key : Key} {d : D} (h : dcPut [] acc = some kvs) (hz : dcPut [] (acc ++ [(key, d)] ++ t) = some f) : dcPut [] (acc ++ [(key, d)]) = some (putKD kvs key d) ∧ szOk (kvs.length + 1) = true := by
  rw [List.append_assoc, dcPut_app, h] at hz
  have hz' : (if szOk (kvs.length + 1) then dcPut (putKD kvs key d) t else none) = some f := hz
  split at hz'
  · rename_i hs
    refine ⟨?_, hs⟩
    rw [dcPut_app, h]
    show (if szOk (kvs.length + 1) then dcPut (putKD kvs key d) [] else none) = _
    rw [if_pos hs]
    rfl
  · cases hz'
theorem ej_dc (o : XOk X k Ns sc N cf) {kx vx tg iter : Expr} {ifs : List Expr} {own : List (Str × Nat)} {g : MG} {mi : M (List D)} {mc : M Bool} {mk me : M R} (hk : scope.kind = .function) (hb : blkC Ns sc scope own = true)
    (htg : tgOk Ns (rawB scope) g tg = true) (hin : ∀ i ∈ gSl g, i ∈ own.map (·.2)) (hs : noSet iter = true) (hi : IJ N X tg iter mi) (hc : Blk X scope fun Y => CdJ N Y ifs mc) (hkx : Blk X scope fun Y => EJ N Y kx mk) (he : Blk X scope fun Y => EJ N Y vx me) :
    EJ N X (.DictComp kx vx [⟨tg, iter, ifs, 0⟩] scope pos) (M.bnd mi fun items => M.bnd (comp (dcTurn g mc mk me) (own.map (·.2)) items) fun l => M.opt ((dcPut [] l).map fun kvs => .own (.dct kvs))) := by
  have hpe : PE X (.DictComp kx vx [⟨tg, iter, ifs, 0⟩] scope pos) (tDc (cI X tg iter) (gOf X.K g) (uTs X scope ifs) (uE X scope kx) (uE X scope vx) (own.map (·.2))) := by
    refine pe_dc o.calm (by rw [o.hN]; exact o.nd) (pi_c tg iter) (by rw [o.hN, o.hsc]; exact blkOk_by hb) (fun s H C cl fp => ?_) (fun s H C cl fp => ⟨fun pins s' σ H' Q I h => h s H C cl fp pins s' I⟩) (fun s H C cl fp => ⟨fun pins s' σ H' Q I h => h s H C cl fp pins s' I⟩) (fun s H C cl fp => ⟨fun pins s' σ H' Q I h => h s H C cl fp pins s' I⟩) (foldedOk hs)
    refine pg_of (o.blk hk) (fun x hx => ?_) (fun x hx => ?_) htg
    · show L2.Loc (compEnvC scope cl C X.env).scope x
      rw [relS_eq, o.hsc]
      exact raw_loc hx
    · show (scope.names.lookup x == some .cell) = true ∨ (compEnvC scope cl C X.env).scope.names.lookup x = some .local
      rw [relS_eq, o.hsc]
      exact raw_fn hx
  generalize hvs : own.map (·.2) = vs at hpe hin
  intro δ res h W σ Hb H Q tk gd post
  rcases M.bnd_ok h with ⟨items, δ1, e1, h⟩ | ⟨c, fs, δ1, e1, rfl⟩
  · rcases M.bnd_ok h with ⟨l, δ2, e2, h⟩ | ⟨c, fs, δ2, e2, rfl⟩
    · obtain ⟨rr, hrr, rfl⟩ := M.opt_ok h
      obtain ⟨kvsF, hz, rfl⟩ := map_some hrr
      · unfold comp at e2
        split at e2
        · cases e2
        · rename_i hown
          have hown : vs.any (ownAt δ1) = false := by simpa using hown
          split at e2
          · rename_i l' δ' hloop
            cases (Option.some.inj e2)
            refine cE_of hpe (hi δ _ e1 W σ Hb H _ tk gd fun J Hb1 H1 s1 g1 src pD hD => ?_)
            refine ⟨fun i m HH => m = items.length - i ∧ i ≤ items.length ∧ ∃ δi acc kvs Hbi xs, dcPut [] acc = some kvs ∧ compLoop (dcTurn g mc mk me) vs (items.drop i) δi acc = some (l, δ') ∧ Good X.K N (L2.wipe σ vs) (wipeD δi vs) Hbi HH ∧
              Stp (L2.wipe σ vs) (wipeD δ1 vs) Hb1 H1 (L2.wipe σ vs) (wipeD δi vs) Hbi HH ∧ HH pD = some (.dK xs) ∧ RepK X.K N Hbi xs kvs ∧ Hbi pD = none ∧ ¬ Own (L2.wipe σ vs) (wipeD δi vs) pD, ⟨items.length, by simp, Nat.zero_le _, δ1, [], [], Hb1, [], rfl, hloop, ?_, Stp.laid hD, upd_same, .nil, hb_none g1 hD, ?_⟩, ?_⟩
            · exact (g1.wipe).laid hD
            · exact fun z => own_ltK g1 (own_wipe z) hD
            rintro i m HH ⟨rfl, hi', δi, acc, kvs, Hbi, xs, hpa, hlp, gi, si, hDi, ri, hbD, noD⟩
            by_cases hlt : i < items.length
            · refine .inr ⟨src.go i HH hlt (si.hb.trans gi.ex), fun H' => ∃ δi acc kvs Hbi xs, dcPut [] acc = some kvs ∧ compLoop (dcTurn g mc mk me) vs (items.drop (i + 1)) δi acc = some (l, δ') ∧ Good X.K N (L2.wipe σ vs) (wipeD δi vs) Hbi H' ∧
                Stp (L2.wipe σ vs) (wipeD δ1 vs) Hb1 H1 (L2.wipe σ vs) (wipeD δi vs) Hbi H' ∧ H' pD = some (.dK xs) ∧ RepK X.K N Hbi xs kvs ∧ Hbi pD = none ∧ ¬ Own (L2.wipe σ vs) (wipeD δi vs) pD, fun H' q => ⟨items.length - (i + 1), by omega, rfl, hlt, q⟩, fun x H' y => ?_⟩
              obtain ⟨Hb2, g2, s2, r2⟩ := yld_ok gi ((src.mono si.hb).yld i HH x H' _ (List.getElem?_eq_getElem hlt) gi.ex y)
              rw [drop_cons hlt] at hlp
              unfold compLoop at hlp
              have fin : ∀ {σ2 : L2.St} {δ2 δ3 : Env} {Hb3 H3 : Hp} {ys : List (Key × V)} {acc2 : List (Key × D)} {kvs2 : List (Key × D)} {Hd : Hp}, σ2.length = σ.length → (∀ j, j ∉ vs → σ2[j]? = (L2.wipe σ vs)[j]?) → Good X.K N σ2 δ3 Hb3 H3 → Stp (L2.wipe σ vs) (wipeD δi vs) Hbi HH σ2 δ3 Hb3 H3 → H3 pD = some (.dK xs) → Hb3 pD = none → ¬ Own σ2 δ3 pD →
                  RepK X.K N Hb3 ys kvs2 → dcPut [] acc2 = some kvs2 → (Hd = H3 ∧ ys = xs ∨ Hd = upd H3 pD (.dK ys)) → compLoop (dcTurn g mc mk me) vs (items.drop (i + 1)) δ3 acc2 = some (l, δ') →
                  ∃ δi acc kvs Hbi xs, dcPut [] acc = some kvs ∧ compLoop (dcTurn g mc mk me) vs (items.drop (i + 1)) δi acc = some (l, δ') ∧ Good X.K N (L2.wipe σ vs) (wipeD δi vs) Hbi Hd ∧
                    Stp (L2.wipe σ vs) (wipeD δ1 vs) Hb1 H1 (L2.wipe σ vs) (wipeD δi vs) Hbi Hd ∧ Hd pD = some (.dK xs) ∧ RepK X.K N Hbi xs kvs ∧ Hbi pD = none ∧ ¬ Own (L2.wipe σ vs) (wipeD δi vs) pD := by
                intro σ2 δ2 δ3 Hb3 H3 ys acc2 kvs2 Hd hl2 ho2 g3 s3 hD3 hb3 no3 r3 hp2 hd hlp3
                have ew : L2.wipe σ2 vs = L2.wipe σ vs := by
                  refine wipe_eq hl2 fun j hj => ?_
                  rw [ho2 j hj, wipe_out hj]
                have g4 : Good X.K N (L2.wipe σ vs) (wipeD δ3 vs) Hb3 H3 := by rw [← ew]; exact g3.wipe
                have no4 : ¬ Own (L2.wipe σ vs) (wipeD δ3 vs) pD := fun z => no3 (by rw [← ew] at z; exact own_wipe z)
                have s4 : Stp (L2.wipe σ vs) (wipeD δ1 vs) Hb1 H1 (L2.wipe σ vs) (wipeD δ3 vs) Hb3 H3 := by
                  have := (si.trans s3).trans (Stp.wipe (vs := vs))
                  rw [ew] at this
                  exact this
                rcases hd with ⟨rfl, rfl⟩ | rfl
                · exact ⟨δ3, acc2, kvs2, Hb3, ys, hp2, hlp3, g4, s4, hD3, r3, hb3, no4⟩
                · exact ⟨δ3, acc2, kvs2, Hb3, ys, hp2, hlp3, g4.mutNew hb3 no4, s4.mutNew hD, upd_same, r3, hb3, no4⟩
              generalize ht : dcTurn g mc mk me items[i] (wipeD δi vs) = tr at hlp
              unfold dcTurn at ht
              split at ht
              · rename_i δ2 hset
                refine setG_ok g2 r2 hset fun σ2 z2 => ?_
                have hl2 : σ2.length = σ.length := z2.len.trans (wipe_length _ _)
                have ho2 : ∀ j, j ∉ vs → σ2[j]? = (L2.wipe σ vs)[j]? := fun j hj => z2.out j fun z => hj (hin j z)
                refine ⟨by rw [wipe_eq hl2 fun j hj => by rw [ho2 j hj, wipe_out hj]], ?_⟩
                have s3 := s2.trans z2.stp
                obtain ⟨tD, tb, tn⟩ := s3.stays hDi hbD noD
                have okTest : ∀ {b : Bool} {δ3 : Env}, mc δ2 = some (.ok b δ3) → ∀ {Q' : Bool → Hp → Prop}, (∀ Hb3 H3, Stp σ2 δ2 Hb2 H' σ2 δ3 Hb3 H3 → Good X.K N σ2 δ3 Hb3 H3 → Q' b H3) → uTs X scope ifs σ2 H' Q' := fun {b δ3} em {Q'} q s0 H0 C0 cl0 fp0 =>
                  hc s0 H0 C0 cl0 fp0 δ2 _ em W0 σ2 Hb2 H' Q' takes_blk z2.good q
                cases hmc : mc δ2 with
                | none => unfold M.bnd at ht; rw [hmc] at ht; subst ht; cases hlp
                | some rt =>
                  cases rt with
                  | ex c fs δx => unfold M.bnd at ht; rw [hmc] at ht; subst ht; cases hlp
                  | ok b δ3 =>
                    unfold M.bnd at ht
                    rw [hmc] at ht
                    dsimp only at ht
                    refine okTest hmc fun Hb3 H3 s4 g4 => ?_
                    have s5 := s3.trans s4
                    obtain ⟨uD, ub, un⟩ := s5.stays hDi hbD noD
                    cases b with
                    | false =>
                      have ht' : some (Res.ok (none : Option (Key × D)) δ3) = tr := ht
                      subst ht'
                      exact fin (δ2 := δ2) hl2 ho2 g4 s5 uD ub un (ri.mono s5.hb) hpa (.inl ⟨rfl, rfl⟩) hlp
                    | true =>
                      have ht' : M.bnd mk (fun r => M.bnd (look r keyD) fun key => M.bnd me fun s => M.bnd (give s) fun e => M.ret (some (key, e))) δ3 = tr := ht
                      cases tr with
                      | none => cases hlp
                      | some rt =>
                      rcases M.bnd_ok ht' with ⟨r, δ4, e4, h4⟩ | ⟨c, fs, δ4, e4, rfl⟩
                      · rcases M.bnd_ok h4 with ⟨key, δ4', e5, h5⟩ | ⟨c, fs, δ5, e5, rfl⟩
                        · obtain ⟨d0, key', v1, hkey, q5⟩ := look_ok e5
                          cases q5
                          rcases M.bnd_ok h5 with ⟨r2, δ5, e6, h6⟩ | ⟨c, fs, δ5, e6, rfl⟩
                          · rcases M.bnd_ok h6 with ⟨d, δ6, e7, h7⟩ | ⟨c, fs, δ6, e7, rfl⟩
                            · cases (Option.some.inj h7)
                              have hlp' : compLoop (dcTurn g mc mk me) vs (items.drop (i + 1)) δ6 (acc ++ [(key, d)]) = some (l, δ') := hlp
                              obtain ⟨t, ht2⟩ := compLoop_pre hlp'
                              have hput : dcPut [] (acc ++ [(key, d)]) = some (putKD kvs key d) ∧ szOk (kvs.length + 1) = true := by
                                rw [ht2] at hz
                                exact dcPut_snoc hpa hz
                              show uE X scope kx σ2 H3 _
                              intro s0 H0 C0 cl0 fp0
                              refine hkx s0 H0 C0 cl0 fp0 δ3 _ e4 W0 σ2 Hb3 H3 _ takes_blk g4 fun v Hb4 H4 s6 g6 r6 => ?_
                              show uE X scope vx σ2 H4 _
                              intro s0 H0 C0 cl0 fp0
                              refine he s0 H0 C0 cl0 fp0 δ4 _ e6 W0 σ2 Hb4 H4 _ takes_blk g6 fun u Hb5 H5 s7 g7 r7 => ?_
                              cases keyD_v (g6.vw r6 v1) hkey
                              obtain ⟨d', δ6', Hb6, q6, s8, g8, r8, x8, _⟩ := g7.give s7 r7 e7
                              cases q6
                              have s9 := (s5.trans s6).trans s8
                              obtain ⟨vD, vb, vn⟩ := s9.stays hDi hbD noD
                              refine ⟨xs, key, rfl, vD, ?_, ?_⟩
                              · have h2 := szOk_le hput.2
                                have h3 := RepK.length ri
                                omega
                              · exact fin (δ2 := δ2) hl2 ho2 g8 s9 vD vb vn ((ri.mono s9.hb).put r8) hput.1 (.inr rfl) hlp'
                            · have z := hlp; cases z
                          · have z := hlp; cases z
                        · have z := hlp; cases z
                      · have z := hlp; cases z
              · subst ht; cases hlp
            · have hi2 : i = items.length := by omega
              subst hi2
              refine .inl ⟨src.stop HH (si.hb.trans gi.ex), ?_⟩
              rw [List.drop_length] at hlp
              unfold compLoop at hlp
              cases (Option.some.inj hlp)
              refine post _ Hbi HH (s1.trans (Stp.back hown si)) (Good.back hown g1 si.hb gi) ⟨pD, _, rfl, ?_, hbD, hDi, .dct (by rw [hz] at hpa; cases (Option.some.inj hpa); exact ri), fun z => noD (own_back hown z)⟩
              cases q : H pD with
              | none => rfl
              | some u => exact absurd hD (s1.dom pD (ne_none q))
          · cases e2
    · unfold comp at e2
      split at e2
      · cases e2
      · split at e2
        · cases e2
        · cases e2
  · exact cE_of hpe (hi δ _ e1 W σ Hb H _ tk gd post)
end
end Rl

set_option Elab.async false
set_option linter.all false
set_option maxRecDepth 100000
set_option maxHeartbeats 4000000
/-! Lay U: statements. -/
namespace Rl
open PySem L2
structure XOkS (X : Cx) (k : Nat) (Ns : List Str) (sc : Scope) (N : Nm) (cf : Cfg) : Prop extends XOk X k Ns sc N cf where
  fnc : ∀ x, sc.names.lookup x = some .cell → X.fn x = true
  own : PassesOwn (model X.prog X.w) X.A X.env X.xe
  stk : X.stack = X.env :: X.outer
  frm : X.env.frame = some X.env.locals
section
variable {X : Cx} {k : Nat} {Ns : List Str} {sc scope : Scope} {N : Nm} {cf : Cfg} {pos : Pos} {keep : Nat → Bool}
theorem XOkS.fnOr (o : XOkS X k Ns sc N cf) {x : Str} (h : locB sc x = true) : X.fn x = true ∨ X.env.scope.names.lookup x = some .local := by
  rw [o.hsc]
  rcases loc_of h with h | h
  · exact .inr h
  · exact .inl (o.fnc x h)
section
variable {K : PySem.W.Frag} {σ σ0 : L2.St} {δ δ0 : Env} {Hb Hb0 H H0 : Hp} {v : V} {r : R} {d : D}
/-- what follows a store -/
structure Put (K : PySem.W.Frag) (N : Nm) (σ0 : L2.St) (δ0 : Env) (Hb0 H0 : Hp) (i : Nat) (σ : L2.St) (Hb H : Hp) (σ' : L2.St) (δ' : Env) (Hb' : Hp) : Prop where
  good : Good K N σ' δ' Hb' H
  stp : Stp σ0 δ0 Hb0 H0 σ' δ' Hb' H
  ex : Ex Hb Hb'
theorem put_own (g : Good K N σ δ Hb H) (s : Stp σ0 δ0 Hb0 H0 σ δ Hb H) {i : Nat} (hi : i < δ.length) (h : RR K N σ δ Hb H0 H v (.own d)) :
    Good K N (σ.set i (some v)) (δ.set i (some (.own d))) Hb H ∧ Stp σ0 δ0 Hb0 H0 (σ.set i (some v)) (δ.set i (some (.own d))) Hb H ∧ ∀ a, Own (σ.set i (some v)) (δ.set i (some (.own d))) a → Own σ δ a ∨ v = .ref a := by
  obtain ⟨p, o, rfl, h0, hb, hp, c, no⟩ := h
  have hs : (σ.set i (some (V.ref p)))[i]? = some (some (.ref p)) := by rw [List.getElem?_set_self (by rw [g.len]; exact hi)]
  have ow : ∀ a, Own (σ.set i (some (.ref p))) (δ.set i (some (.own d))) a → Own σ δ a ∨ V.ref p = .ref a := fun a ⟨j, e, q, z⟩ => by
    rcases set_get q with ⟨rfl, _, _⟩ | ⟨n, y⟩
    · rw [hs] at z
      cases z
      exact .inr rfl
    · rw [List.getElem?_set_ne n] at z
      exact .inl ⟨j, e, y, z⟩
  refine ⟨⟨g.ex, fun j e q => ?_, fun j e q => ?_, fun j k a e f n q1 q2 z1 z2 => ?_, by rw [List.length_set, List.length_set]; exact g.len⟩, ⟨s.hb, s.fresh, s.frame, s.dom, fun a q => ?_⟩, ow⟩
  · rcases set_get q with ⟨_, z, _⟩ | ⟨n, z⟩
    · cases z
    · obtain ⟨u, a, b⟩ := g.dat j e z
      exact ⟨u, by rw [List.getElem?_set_ne n]; exact a, b⟩
  · rcases set_get q with ⟨rfl, z, hl⟩ | ⟨n, z⟩
    · cases z
      exact ⟨p, o, hs, hb, hp, c⟩
    · obtain ⟨p', u, a, b⟩ := g.own j e z
      exact ⟨p', u, by rw [List.getElem?_set_ne n]; exact a, b⟩
  · rcases set_get q1 with ⟨rfl, _, _⟩ | ⟨n1, y1⟩
    · rcases set_get q2 with ⟨rfl, _, _⟩ | ⟨n2, y2⟩
      · exact n rfl
      · rw [hs] at z1
        cases z1
        rw [List.getElem?_set_ne n2] at z2
        exact no ⟨k, f, y2, z2⟩
    · rcases set_get q2 with ⟨rfl, _, _⟩ | ⟨n2, y2⟩
      · rw [hs] at z2
        cases z2
        rw [List.getElem?_set_ne n1] at z1
        exact no ⟨j, e, y1, z1⟩
      · rw [List.getElem?_set_ne n1] at z1
        rw [List.getElem?_set_ne n2] at z2
        exact g.sep j k a e f n y1 y2 z1 z2
  · rcases ow a q with z | z
    · exact s.own a z
    · cases z; exact .inr h0
theorem put_ok {i : Nat} {res : Res Fl} (g : Good K N σ δ Hb H) (s : Stp σ0 δ0 Hb0 H0 σ δ Hb H) (h : RR K N σ δ Hb H0 H v r) (e : put keep i r δ = some res) :
    keep i = false ∧ ∃ δ' Hb', res = .ok .nx δ' ∧ Good K N (σ.set i (some v)) δ' Hb' H ∧ Stp σ0 δ0 Hb0 H0 (σ.set i (some v)) δ' Hb' H ∧ Ex Hb Hb' ∧
      (∀ a, Own (σ.set i (some v)) δ' a → Own σ δ a ∨ (v = .ref a ∧ ∃ d, r = .own d)) ∧ ((∀ j, r ≠ .bor j) → Hb' = Hb) := by
  unfold put at e
  split at e
  · cases e
  · rename_i hk
    have hk' : keep i = false ∧ i < δ.length := by
      cases h1 : keep i <;> simp_all
    refine ⟨hk'.1, ?_⟩
    split at e
    · rename_i d
      cases (Option.some.inj e)
      have z := Set2.one (i := i) g h
      exact ⟨_, Hb, rfl, z.good, s.trans z.stp, Ex.refl _, fun a q => .inl (z.own a q), fun _ => rfl⟩
    · rename_i d
      cases (Option.some.inj e)
      obtain ⟨a, b, c⟩ := put_own g s hk'.2 h
      refine ⟨_, Hb, rfl, a, b, Ex.refl _, fun x q => ?_, fun _ => rfl⟩
      rcases c x q with z | z
      · exact .inl z
      · exact .inr ⟨z, d, rfl⟩
    · rename_i j
      rcases M.bnd_ok e with ⟨d, δ1, e1, e2⟩ | ⟨c, fs, δ1, e1, e2⟩
      · obtain ⟨d', δ', Hb', q, s1, g1, r1, x1, _, o1, _⟩ := g.give (Stp.refl (σ := σ) (δ := δ)) (show RR K N σ δ Hb H H v (.bor j) from h) e1
        cases q
        cases (Option.some.inj e2)
        have z := Set2.one (i := i) g1 r1
        exact ⟨_, Hb', rfl, z.good, (s.trans s1).trans z.stp, x1, fun a q => .inl (o1 a (z.own a q)), fun n => absurd rfl (n j)⟩
      · obtain ⟨_, _, _, q, _⟩ := g.give (Stp.refl (σ := σ) (δ := δ)) (show RR K N σ δ Hb H H v (.bor j) from h) e1
        cases q
end
theorem SPost.nx {K : PySem.W.Frag} {W : WX} {σ : L2.St} {δ δ' : Env} {Hb H : Hp} {E : Ends} (post : SPost K N keep W σ δ Hb H E (.ok .nx δ')) {σ' : L2.St} {Hb' H' : Hp} (s : Stp σ δ Hb H σ' δ' Hb' H') (g : Good K N σ' δ' Hb' H') (q : ∀ i, keep i = true → σ'[i]? = σ[i]?) : E.nx σ' H' := post σ' Hb' H' s g q
theorem keep_set {σ : L2.St} {i : Nat} {x : Option V} (h : keep i = false) : ∀ j, keep j = true → (σ.set i x)[j]? = σ[j]? := fun j hj => by
  rw [List.getElem?_set_ne]
  rintro rfl
  rw [h] at hj; cases hj
/-- no comprehension -/
def noComp : Expr → Bool
  | .ListComp _ _ _ _ => false
  | .SetComp _ _ _ _ => false
  | .DictComp _ _ _ _ _ => false
  | _ => true
theorem noComp_sw {e : Expr} {t : Option Expr} {l : Nat} {env : PySem.Env} (h : noComp e = true) : swapsWith e t l env = pure false := by
  cases e <;> first | rfl | cases h
/-- from a value to a store -/
theorem set_mid {e : Expr} {m : M R} {i : Nat} {δ : Env} {res : Res Fl} (h : M.bnd m (fun r => put keep i r) δ = some res) {W : WX} {σ : L2.St} {Hb H : Hp} {E : Ends} (g : Good X.K N σ δ Hb H) (post : SPost X.K N keep W σ δ Hb H E res) :
    ∃ res1, m δ = some res1 ∧ EPost X.K N W σ δ Hb H (fun x H1 => E.nx (σ.set i (some x)) H1) res1 := by
  rcases M.bnd_ok h with ⟨r, δ1, e1, h⟩ | ⟨c, fs, δ1, e1, rfl⟩
  · refine ⟨_, e1, fun v Hb1 H1 s1 g1 r1 => ?_⟩
    obtain ⟨hk, δ', Hb', rfl, g2, s2, _⟩ := put_ok g1 s1 r1 h
    exact post _ Hb' H1 s2 g2 (keep_set hk)
  · exact ⟨_, e1, fun cv dd Hb1 H1 s1 g1 r1 => post cv dd σ Hb1 H1 s1 g1 (fun _ _ => rfl) r1⟩
theorem sj_set (o : XOkS X k Ns sc N cf) {e : Expr} {m : M R} {i : Nat} {x : Str} {p : Pos} (hi : Ns[i]? = some x) (hx : locB sc x = true) (hn : noComp e = true) (he : EJ N X e m) : SJ N X keep (.Assign [.Name x p] e pos) (M.bnd m fun r => put keep i r) := by
  intro δ res h W σ Hb H E tk g post
  obtain ⟨res1, e1, p1⟩ := set_mid (e := e) h g post
  exact cS_of (ps_set (by rw [o.hN]; exact o.nd) (o.ix hi) (o.loc hx) (pe_c e) (noComp_sw hn) (o.fnOr hx)) (he δ res1 e1 W σ Hb H _ tk g p1)
/-- a comprehension's value, not swapped -/
theorem sj_setF (o : XOkS X k Ns sc N cf) {e : Expr} {m : M R} {i : Nat} {x : Str} {p : Pos} (hi : Ns[i]? = some x) (hx : locB sc x = true) (hn : swapsWith e (some (.Name x p)) pos.line X.env = pure false) (he : EJ N X e m) : SJ N X keep (.Assign [.Name x p] e pos) (M.bnd m fun r => put keep i r) := by
  intro δ res h W σ Hb H E tk g post
  obtain ⟨res1, e1, p1⟩ := set_mid (e := e) h g post
  exact cS_of (ps_set (by rw [o.hN]; exact o.nd) (o.ix hi) (o.loc hx) (pe_c e) hn (o.fnOr hx)) (he δ res1 e1 W σ Hb H _ tk g p1)
/-- whether the list of a comprehension is stored from within -/
def swB (sc scope : Scope) (x : Str) (p : Pos) (vp : Pos) : Bool := (sc.names.lookup x == some .local) && p.line == vp.line && !(scope.names.any fun (n, k) => n == x && (k == .local || k == .cell))
theorem sw_eq (o : XOkS X k Ns sc N cf) {elt : Expr} {gs : List Comprehension} {x : Str} {p pos : Pos} {l : Nat} : swapsWith (.ListComp elt gs scope pos) (some (.Name x p)) l X.env = pure (swB sc scope x p (Expr.ListComp elt gs scope pos).pos) := by
  have hk : X.env.scope.kind = .function := by rw [o.hsc]; exact o.kind
  have hb : X.env.blockKind = .function := by
    unfold Env.blockKind
    rw [hk]
    rfl
  unfold swapsWith swB
  show pure (X.env.blockKind == .function && X.env.kindOf x == some .local && _ && _) = _
  rw [hb]
  have : X.env.kindOf x = sc.names.lookup x := by show X.env.scope.names.lookup x = _; rw [o.hsc]
  rw [this]
  rfl
theorem sj_setLc (o : XOkS X k Ns sc N cf) {elt tg iter : Expr} {ifs : List Expr} {own : List (Str × Nat)} {gg : MG} {mi : M (List D)} {mc : M Bool} {me : M R} {i : Nat} {x : Str} {p pos2 : Pos} (hi0 : Ns[i]? = some x) (hx : locB sc x = true)
    (hk : scope.kind = .function) (hb : blkC Ns sc scope own = true)
    (htg : tgOk Ns (rawB scope) gg tg = true) (hin : ∀ i ∈ gSl gg, i ∈ own.map (·.2)) (hs : noSet iter = true) (hi : IJ N X tg iter mi) (hc : Blk X scope fun Y => CdJ N Y ifs mc) (he : Blk X scope fun Y => EJ N Y elt me) :
    SJ N X keep (.Assign [.Name x p] (.ListComp elt [⟨tg, iter, ifs, 0⟩] scope pos2) pos) (M.bnd (M.bnd mi fun items => M.bnd (comp (lcTurn gg mc me) (own.map (·.2)) items) fun l => if szOk l.length then M.ret (.own (.lst l)) else M.stuck) fun r => put keep i r) := by
  cases hsw : swB sc scope x p (Expr.ListComp elt [⟨tg, iter, ifs, 0⟩] scope pos2).pos with
  | false => exact sj_setF o hi0 hx (by rw [sw_eq o, hsw]) (ej_lc o.toXOk hk hb htg hin hs hi hc he)
  | true =>
    have hl : sc.names.lookup x = some .local := by
      unfold swB at hsw
      simp only [Bool.and_eq_true, beq_iff_eq] at hsw
      exact hsw.1.1
    intro δ res h W σ Hb H E tk g post
    obtain ⟨res1, e1, p1⟩ := set_mid (e := .ListComp elt [⟨tg, iter, ifs, 0⟩] scope pos2) h g post
    refine cS_of (ps_setLc (wi := cI X tg iter) (g := gOf X.K gg) (tt := uTs X scope ifs) (te := uE X scope elt) o.calm (by rw [o.hN]; exact o.nd) (o.ix hi0) (by rw [o.hsc]; exact hl) (by rw [sw_eq o, hsw]) (pi_c tg iter) (by rw [o.hN, o.hsc]; exact blkOk_by hb) (fun s H C cl fp => ?_) (fun s H C cl fp => ⟨fun pins s' σ H' Q I h => h s H C cl fp pins s' I⟩) (fun s H C cl fp => ⟨fun pins s' σ H' Q I h => h s H C cl fp pins s' I⟩) (foldedOk hs)) (lc_rd hin hi hc he δ res1 e1 W σ Hb H _ tk g p1)
    refine pg_of (o.toXOk.blk hk) (fun x hx => ?_) (fun x hx => ?_) htg
    · show L2.Loc (compEnvC scope cl C X.env).scope x
      rw [relS_eq, o.hsc]
      exact raw_loc hx
    · show (scope.names.lookup x == some .cell) = true ∨ (compEnvC scope cl C X.env).scope.names.lookup x = some .local
      rw [relS_eq, o.hsc]
      exact raw_fn hx
/-! ### small ones -/
theorem sj_exp {e : Expr} {m : M R} (o : XOkS X k Ns sc N cf) (hn : noComp e = true) (he : EJ N X e m) : SJ N X keep (.Expr e pos) (M.bnd m fun _ => M.ret .nx) := by
  intro δ res h W σ Hb H E tk g post
  rcases M.bnd_ok h with ⟨r, δ1, e1, h⟩ | ⟨c, fs, δ1, e1, rfl⟩
  · cases (Option.some.inj h)
    exact cS_of (ps_expr (pe_c e) (noComp_sw hn)) (he δ _ e1 W σ Hb H _ tk g fun v Hb1 H1 s1 g1 r1 => post σ Hb1 H1 s1 g1 fun _ _ => rfl)
  · exact cS_of (ps_expr (pe_c e) (noComp_sw hn)) (he δ _ e1 W σ Hb H _ tk g fun cv dd Hb1 H1 s1 g1 r1 => post cv dd σ Hb1 H1 s1 g1 (fun _ _ => rfl) r1)
theorem sj_pas : SJ N X keep (.Pass pos) (M.ret .nx) := fun δ res h W σ Hb H E tk g post => by
  cases (Option.some.inj h)
  exact cS_of ps_pass (post σ Hb H Stp.refl g fun _ _ => rfl)
theorem sj_nev {st : Stmt} {m : M Fl} (h : ∀ δ, m δ = none) : SJ N X keep st m := fun δ res h1 => by rw [h δ] at h1; cases h1
theorem sj_rtn : SJ N X keep (.Return none pos) (M.ret (.rt (.dat .non))) := fun δ res h W σ Hb H E tk g post => by
  cases (Option.some.inj h)
  exact cS_of ps_retN (post .non σ Hb H Stp.refl g (fun _ _ => rfl) .non)
theorem sj_ret {e : Expr} {m : M R} (he : EJ N X e m) : SJ N X keep (.Return (some e) pos) (M.bnd m fun r => out keep r) := by
  intro δ res h W σ Hb H E tk g post
  rcases M.bnd_ok h with ⟨r, δ1, e1, h⟩ | ⟨c, fs, δ1, e1, rfl⟩
  · refine cS_of (ps_ret (pe_c e)) (he δ _ e1 W σ Hb H _ tk g fun v Hb1 H1 s1 g1 r1 => ?_)
    unfold out at h
    split at h
    · cases (Option.some.inj h)
      exact post v σ Hb1 H1 s1 g1 (fun _ _ => rfl) r1
    · cases (Option.some.inj h)
      obtain ⟨p, o, a, b, c, d, e, f⟩ := r1
      exact post v σ Hb1 H1 s1 g1 (fun _ _ => rfl) ⟨p, o, a, .inl b, c, d, e, f⟩
    · rename_i i
      split at h
      · rename_i d hd
        split at h
        · cases h
        · rename_i hk
          cases (Option.some.inj h)
          obtain ⟨p, o, a, b, c, e⟩ := g1.own i d hd
          have ev : σ[i]? = some (some v) := r1
          rw [a] at ev
          cases ev
          have no : ¬ Own σ (δ1.set i none) p := fun ⟨j, f, q, z⟩ => by
            rcases set_get q with ⟨_, y, _⟩ | ⟨n, y⟩
            · cases y
            · exact g1.sep i j p d f n hd y a z
          have ow : ∀ x, Own σ (δ1.set i none) x → Own σ δ1 x := fun x ⟨j, f, q, z⟩ => by
            rcases set_get q with ⟨_, y, _⟩ | ⟨n, y⟩
            · cases y
            · exact ⟨j, f, y, z⟩
          refine post _ σ Hb1 H1 ⟨s1.hb, s1.fresh, s1.frame, s1.dom, fun x q => s1.own x (ow x q)⟩ ⟨g1.ex, fun j f q => ?_, fun j f q => ?_, fun j k x f f' n q1 q2 => ?_, by rw [List.length_set]; exact g1.len⟩ (fun _ _ => rfl) ⟨p, o, rfl, ?_, b, c, e, no⟩
          · rcases set_get q with ⟨_, y, _⟩ | ⟨n, y⟩
            · cases y
            · exact g1.dat j f y
          · rcases set_get q with ⟨_, y, _⟩ | ⟨n, y⟩
            · cases y
            · exact g1.own j f y
          · rcases set_get q1 with ⟨_, y, _⟩ | ⟨_, y1⟩
            · cases y
            · rcases set_get q2 with ⟨_, y, _⟩ | ⟨_, y2⟩
              · cases y
              · exact g1.sep j k x f f' n y1 y2
          · rcases s1.own p ⟨i, d, hd, a⟩ with z | z
            · exact .inr z
            · exact .inl z
      · rename_i d hd
        cases (Option.some.inj h)
        obtain ⟨u, a, b⟩ := g1.dat i d hd
        have ev : σ[i]? = some (some v) := r1
        rw [a] at ev
        cases ev
        exact post _ σ Hb1 H1 s1 g1 (fun _ _ => rfl) b
      · cases h
  · exact cS_of (ps_ret (pe_c e)) (he δ _ e1 W σ Hb H _ tk g fun cv dd Hb1 H1 s1 g1 r1 => post cv dd σ Hb1 H1 s1 g1 (fun _ _ => rfl) r1)
/-! ### suites -/
theorem RT.base {K : PySem.W.Frag} {σ0 σ1 σ' : L2.St} {δ0 δ1 δ' : Env} {Hb0 Hb1 H0 H1 Hb' H' : Hp} {v : V} {r : R} (s : Stp σ0 δ0 Hb0 H0 σ1 δ1 Hb1 H1) (h : RT K N σ1 δ1 H1 σ' δ' Hb' H' v r) : RT K N σ0 δ0 H0 σ' δ' Hb' H' v r := by
  cases r with
  | dat d => exact h
  | bor i => exact h
  | own d =>
    obtain ⟨p, o, a, b, c⟩ := h
    refine ⟨p, o, a, ?_, c⟩
    rcases b with b | b
    · refine .inl ?_
      cases q : H0 p with
      | none => rfl
      | some u => exact absurd b (s.dom p (ne_none q))
    · rcases s.own p b with z | z
      · exact .inr z
      · exact .inl z
theorem SPost.lift {K : PySem.W.Frag} {W : WX} {σ σ1 : L2.St} {δ δ1 : Env} {Hb H Hb1 H1 : Hp} {E : Ends} {res : Res Fl} (post : SPost K N keep W σ δ Hb H E res) (s1 : Stp σ δ Hb H σ1 δ1 Hb1 H1) (q : ∀ i, keep i = true → σ1[i]? = σ[i]?) : SPost K N keep W σ1 δ1 Hb1 H1 E res := by
  cases res with
  | ex c fs δ' => exact fun cv dd σ' Hb2 H2 s2 g2 q2 r2 => post cv dd σ' Hb2 H2 (s1.trans s2) g2 (fun i h => (q2 i h).trans (q i h)) r2
  | ok f δ' =>
    cases f with
    | nx => exact fun σ' Hb2 H2 s2 g2 q2 => post σ' Hb2 H2 (s1.trans s2) g2 fun i h => (q2 i h).trans (q i h)
    | rt r => exact fun v σ' Hb2 H2 s2 g2 q2 r2 => post v σ' Hb2 H2 (s1.trans s2) g2 (fun i h => (q2 i h).trans (q i h)) (r2.base s1)
theorem SPost.ends {K : PySem.W.Frag} {W : WX} {σ : L2.St} {δ : Env} {Hb H : Hp} {E E' : Ends} {res : Res Fl} (post : SPost K N keep W σ δ Hb H E res) (h1 : ∀ δ', res = .ok .nx δ' → E'.nx = E.nx) (h2 : E'.rt = E.rt) : SPost K N keep W σ δ Hb H E' res := by
  cases res with
  | ex c fs δ' => exact post
  | ok f δ' =>
    cases f with
    | nx =>
      have := h1 δ' rfl
      exact fun σ' Hb2 H2 s2 g2 q2 => by rw [this]; exact post σ' Hb2 H2 s2 g2 q2
    | rt r => exact fun v σ' Hb2 H2 s2 g2 q2 r2 => by rw [h2]; exact post v σ' Hb2 H2 s2 g2 q2 r2
theorem ss_nil : SsJ N X keep [] (M.ret .nx) := fun δ res h W σ Hb H E tk g post => by
  cases (Option.some.inj h)
  exact cSs_of pss_nil (post σ Hb H Stp.refl g fun _ _ => rfl)
def seqM (a b : M Fl) : M Fl := M.bnd a fun | .nx => b | .rt r => M.ret (.rt r)
theorem ss_cons {st : Stmt} {sts : List Stmt} {m ms : M Fl} (h1 : SJ N X keep st m) (h2 : SsJ N X keep sts ms) : SsJ N X keep (st :: sts) (seqM m ms) := by
  intro δ res h W σ Hb H E tk g post
  refine cSs_of (pss_cons (ps_c st) (pss_c sts)) ?_
  show cS X st { E with nx := cSs X sts E } σ H
  rcases M.bnd_ok h with ⟨f, δ1, e1, h⟩ | ⟨c, fs, δ1, e1, rfl⟩
  · cases f with
    | nx =>
      refine h1 δ _ e1 W σ Hb H _ tk g fun σ1 Hb1 H1 s1 g1 q1 => ?_
      exact h2 δ1 res h W σ1 Hb1 H1 E tk g1 (post.lift s1 q1)
    | rt r =>
      cases (Option.some.inj h)
      exact h1 δ _ e1 W σ Hb H _ tk g (post.ends (fun _ z => nomatch z) rfl)
  · exact h1 δ _ e1 W σ Hb H _ tk g post
theorem sj_ite {c : Expr} {a b : List Stmt} {mc : M Bool} {ma mb : M Fl} (hc : TJ N X c mc) (ha : SsJ N X keep a ma) (hb : SsJ N X keep b mb) : SJ N X keep (.If c a b pos) (M.bnd mc fun k => if k then ma else mb) := by
  intro δ res h W σ Hb H E tk g post
  refine cS_of (ps_if (pt_c c) (pss_c a) (pss_c b)) ?_
  rcases M.bnd_ok h with ⟨f, δ1, e1, h⟩ | ⟨c', fs, δ1, e1, rfl⟩
  · refine hc δ _ e1 W σ Hb H _ tk g fun Hb1 H1 s1 g1 => ?_
    cases f with
    | true => exact ha δ1 res h W σ Hb1 H1 E tk g1 (post.lift s1 fun _ _ => rfl)
    | false => exact hb δ1 res h W σ Hb1 H1 E tk g1 (post.lift s1 fun _ _ => rfl)
  · exact hc δ _ e1 W σ Hb H _ tk g fun cv dd Hb1 H1 s1 g1 r1 => post cv dd σ Hb1 H1 s1 g1 (fun _ _ => rfl) r1
theorem sj_whl (o : XOkS X k Ns sc N cf) {c : Expr} {b : List Stmt} {mc : M Bool} {mb : M Fl} (hc : TJ N X c mc) (hb : SsJ N X keep b mb) (F : Nat) : SJ N X keep (.While c b [] pos) (whlM mc mb F) := by
  intro δ res h W σ Hb H E tk g post
  refine cS_of (ps_while o.own (pt_c c) (pss_c b)) ⟨fun m σ1 H1 => ∃ δ1 Hb1, whlM mc mb m δ1 = some res ∧ Good X.K N σ1 δ1 Hb1 H1 ∧ Stp σ δ Hb H σ1 δ1 Hb1 H1 ∧ ∀ i, keep i = true → σ1[i]? = σ[i]?, ⟨F, δ, Hb, h, g, Stp.refl, fun _ _ => rfl⟩, ?_⟩
  rintro m σ1 H1 ⟨δ1, Hb1, h1, g1, s1, q1⟩
  cases m with
  | zero => cases h1
  | succ m =>
    have h1 : M.bnd mc (fun k => if k then M.bnd mb (fun | .nx => whlM mc mb m | .rt r => M.ret (.rt r)) else M.ret .nx) δ1 = some res := h1
    rcases M.bnd_ok h1 with ⟨f, δ2, e2, h2⟩ | ⟨c', fs, δ2, e2, rfl⟩
    · refine hc δ1 _ e2 W σ1 Hb1 H1 _ tk g1 fun Hb2 H2 s2 g2 => ?_
      cases f with
      | false =>
        cases (Option.some.inj h2)
        exact post σ1 Hb2 H2 (s1.trans s2) g2 q1
      | true =>
        refine ⟨fun σ3 H3 => ∃ δ3 Hb3, whlM mc mb m δ3 = some res ∧ Good X.K N σ3 δ3 Hb3 H3 ∧ Stp σ δ Hb H σ3 δ3 Hb3 H3 ∧ ∀ i, keep i = true → σ3[i]? = σ[i]?, fun σ' H' z => ⟨m, Nat.lt_succ_self _, z⟩, ?_⟩
        have h2 : M.bnd mb (fun | .nx => whlM mc mb m | .rt r => M.ret (.rt r)) δ2 = some res := h2
        rcases M.bnd_ok h2 with ⟨fl, δ3, e3, h3⟩ | ⟨c', fs, δ3, e3, rfl⟩
        · cases fl with
          | nx => exact hb δ2 _ e3 W σ1 Hb2 H2 _ tk g2 fun σ3 Hb3 H3 s3 g3 q3 => ⟨δ3, Hb3, h3, g3, (s1.trans s2).trans s3, fun i hi => (q3 i hi).trans (q1 i hi)⟩
          | rt r =>
            cases (Option.some.inj h3)
            exact hb δ2 _ e3 W σ1 Hb2 H2 _ tk g2 ((post.lift (s1.trans s2) q1).ends (fun _ z => nomatch z) rfl)
        · exact hb δ2 _ e3 W σ1 Hb2 H2 _ tk g2 (post.lift (s1.trans s2) q1)
    · exact hc δ1 _ e2 W σ1 Hb1 H1 _ tk g1 fun cv dd Hb2 H2 s2 g2 r2 => post cv dd σ1 Hb2 H2 (s1.trans s2) g2 q1 r2
theorem sj_fr (o : XOkS X k Ns sc N cf) {tg iter : Expr} {gg : MG} {b : List Stmt} {mi : M (List D)} {mb : M Fl} (hs : noSet iter = true) (htg : tgOk Ns (locB sc) gg tg = true) (hi : IJ N X tg iter mi) (hb : SsJ N X keep b mb) :
    SJ N X keep (.For tg iter b [] pos) (M.bnd mi fun l => frM keep gg mb l) := by
  intro δ res h W σ Hb H E tk g post
  have hp := ps_for (pos := pos) o.own o.calm (pi_c tg iter) (pg_of o.toXOk (fun x hx => o.loc hx) (fun x hx => o.fnOr hx) htg) (pss_c b) (foldedOk hs)
  refine cS_of hp ?_
  rcases M.bnd_ok h with ⟨items, δ1, e1, h⟩ | ⟨c', fs, δ1, e1, rfl⟩
  · refine hi δ _ e1 W σ Hb H _ tk g fun J Hb1 H1 s1 g1 src => ?_
    refine ⟨fun i m σ2 H2 => m = items.length - i ∧ i ≤ items.length ∧ ∃ δ2 Hb2, frM keep gg mb (items.drop i) δ2 = some res ∧ Good X.K N σ2 δ2 Hb2 H2 ∧ Stp σ δ Hb H σ2 δ2 Hb2 H2 ∧ Ex Hb1 Hb2 ∧ ∀ i, keep i = true → σ2[i]? = σ[i]?,
      ⟨items.length, by simp, Nat.zero_le _, δ1, Hb1, h, g1, s1, Ex.refl _, fun _ _ => rfl⟩, ?_⟩
    rintro i m σ2 H2 ⟨rfl, hil, δ2, Hb2, h2, g2, s2, x2, q2⟩
    by_cases hlt : i < items.length
    · refine .inr ⟨src.go i H2 hlt (x2.trans g2.ex), fun σ3 H3 => ∃ δ3 Hb3, frM keep gg mb (items.drop (i + 1)) δ3 = some res ∧ Good X.K N σ3 δ3 Hb3 H3 ∧ Stp σ δ Hb H σ3 δ3 Hb3 H3 ∧ Ex Hb1 Hb3 ∧ ∀ i, keep i = true → σ3[i]? = σ[i]?,
        fun σ' H' z => ⟨items.length - (i + 1), by omega, rfl, hlt, z⟩, fun x H' y => ?_⟩
      obtain ⟨Hb3, g3, s3, r3⟩ := yld_ok g2 ((src.mono x2).yld i H2 x H' _ (List.getElem?_eq_getElem hlt) g2.ex y)
      rw [drop_cons hlt] at h2
      unfold frM at h2
      split at h2
      · rename_i δ3 hk hset
        refine setG_ok g3 r3 hset fun σ4 z4 => ?_
        have q4 : ∀ i, keep i = true → σ4[i]? = σ2[i]? := fun j hj => z4.out j fun z => by
          cases gg with
          | one i0 =>
            have z' := List.mem_singleton.mp z
            subst z'
            have hk' : keep j = false := hk
            rw [hk'] at hj; cases hj
          | many l =>
            have := List.any_eq_false.mp (show l.any keep = false from hk) j z
            exact this hj
        have s4 := (s2.trans s3).trans z4.stp
        have q5 : ∀ i, keep i = true → σ4[i]? = σ[i]? := fun j hj => (q4 j hj).trans (q2 j hj)
        rcases M.bnd_ok h2 with ⟨fl, δ5, e5, h5⟩ | ⟨c', fs, δ5, e5, rfl⟩
        · cases fl with
          | nx => exact hb δ3 _ e5 W σ4 Hb3 H' _ tk z4.good fun σ6 Hb6 H6 s6 g6 q6 => ⟨δ5, Hb6, h5, g6, s4.trans s6, (x2.trans s3.hb).trans s6.hb, fun j hj => (q6 j hj).trans (q5 j hj)⟩
          | rt r =>
            cases (Option.some.inj h5)
            exact hb δ3 _ e5 W σ4 Hb3 H' _ tk z4.good ((post.lift s4 q5).ends (fun _ z => nomatch z) rfl)
        · exact hb δ3 _ e5 W σ4 Hb3 H' _ tk z4.good (post.lift s4 q5)
      · cases h2
    · have hi2 : i = items.length := by omega
      subst hi2
      rw [List.drop_length] at h2
      cases (Option.some.inj h2)
      exact .inl ⟨src.stop H2 (x2.trans g2.ex), post σ2 Hb2 H2 s2 g2 q2⟩
  · exact hi δ _ e1 W σ Hb H _ tk g fun cv dd Hb1 H1 s1 g1 r1 => post cv dd σ Hb1 H1 s1 g1 (fun _ _ => rfl) r1
end
end Rl

set_option Elab.async false
set_option linter.all false
set_option maxRecDepth 100000
set_option maxHeartbeats 4000000
/-! Lay V: stores into things. -/
namespace Rl
open PySem L2
section
variable {X : Cx} {k : Nat} {Ns : List Str} {sc scope : Scope} {N : Nm} {cf : Cfg} {pos : Pos} {keep : Nat → Bool}
theorem RepT.anyK {K : PySem.W.Frag} {Hb : Hp} (key : List Key) : ∀ {xs : List (List Key × V)} {ds : List (List Key × D)}, RepT K N Hb xs ds → (xs.any fun kv => decide (kv.1 = key)) = (ds.any fun kv => decide (kv.1 = key))
  | _, _, .nil => rfl
  | _, _, .cons _ b => by rw [List.any_cons, List.any_cons, RepT.anyK key b]
theorem RepT.repl {K : PySem.W.Frag} {Hb : Hp} {key : List Key} {v : V} {d : D} (hv : Rep K N Hb v d) : ∀ {xs : List (List Key × V)} {ds : List (List Key × D)}, RepT K N Hb xs ds →
    RepT K N Hb (xs.map fun kv => if kv.1 = key then (kv.1, v) else kv) (ds.map fun kv => if kv.1 = key then (kv.1, d) else kv)
  | _, _, .nil => .nil
  | _, _, .cons (k := k') a b => by
    rw [List.map_cons, List.map_cons]
    by_cases q : k' = key
    · rw [if_pos q, if_pos q]; exact .cons hv (RepT.repl hv b)
    · rw [if_neg q, if_neg q]; exact .cons a (RepT.repl hv b)
theorem RepT.snoc {K : PySem.W.Frag} {Hb : Hp} {key : List Key} {v : V} {d : D} (hv : Rep K N Hb v d) : ∀ {xs : List (List Key × V)} {ds : List (List Key × D)}, RepT K N Hb xs ds → RepT K N Hb (xs ++ [(key, v)]) (ds ++ [(key, d)])
  | _, _, .nil => .cons hv .nil
  | _, _, .cons a b => .cons a (RepT.snoc hv b)
theorem RepT.put {K : PySem.W.Frag} {Hb : Hp} {xs : List (List Key × V)} {ds : List (List Key × D)} {key : List Key} {v : V} {d : D} (h : RepT K N Hb xs ds) (hv : Rep K N Hb v d) : RepT K N Hb (putK xs key v) (putKD ds key d) := by
  unfold putK putKD
  rw [h.anyK key]
  split
  · exact h.repl hv
  · exact h.snoc hv
theorem RepT.length {K : PySem.W.Frag} {Hb : Hp} : ∀ {xs : List (List Key × V)} {ds : List (List Key × D)}, RepT K N Hb xs ds → xs.length = ds.length
  | _, _, .nil => rfl
  | _, _, .cons _ b => by simp [RepT.length b]
def rSetB : TSet := fun o i v H Q => rSetL o i v H Q ∨ rSetD o i v H Q
theorem set_both (hu : X.A.units + 1 < cLine) : PSet X rSetB := fun pins s σ H o i v ov iv u Q I ro ri rv h => h.elim (set_list pins s σ H o i v ov iv u Q I ro ri rv) (set_dict hu pins s σ H o i v ov iv u Q I ro ri rv)
theorem chg_some {i : Nat} {f : D → Option D} {δ : Env} {res : Res Fl} (h : chg i f δ = some res) : ∃ d d', δ[i]? = some (some (.own d)) ∧ f d = some d' ∧ res = .ok .nx (δ.set i (some (.own d'))) := by
  unfold chg at h
  split at h
  · rename_i d hd
    obtain ⟨d', h1, h2⟩ := map_some h
    exact ⟨d, d', hd, h1, h2⟩
  · cases h
/-- a store into an owned thing -/
theorem store_ok' {K : PySem.W.Frag} {σ : L2.St} {δ : Env} {Hb H : Hp} {p : Addr} {o : HO} {c kd vd d' : D} {kv vv : V} (g : Good K N σ δ Hb H) (hp : H p = some o) (hc : Cnt K N Hb o c) (hk : Vw K N Hb H kv kd) (hv : Rep K N Hb vv vd) (h : storeD c kd vd = some d') :
    ∃ o', Cnt K N Hb o' d' ∧ ∀ Q : Hp → Prop, Q (upd H p o') → rSetB (.ref p) kv vv H Q := by
  unfold storeD at h
  split at h
  · obtain ⟨j, hj, rfl⟩ := map_some h
    cases hc with
    | @lst xs _ r =>
      cases hk.int
      exact ⟨.lst (xs.set j vv), .lst (r.set j hv), fun Q q => .inl ⟨p, xs, _, j, rfl, rfl, hp, by rw [RepL.length r]; exact hj, q⟩⟩
  · split at h
    · rename_i key hkey
      split at h
      · rename_i hz
        cases h
        cases hc with
        | @dct xs _ r =>
          cases keyD_v hk hkey
          refine ⟨.dK (putK xs key vv), .dct (r.put hv), fun Q q => .inr ⟨p, _, rfl, DPut.k hp ?_, q⟩⟩
          have := szOk_le hz
          have h2 := RepK.length r
          omega
      · cases h
    · cases h
  · split at h
    · rename_i key hkey
      split at h
      · rename_i hz
        cases h
        cases hc with
        | @dtt xs _ r =>
          obtain ⟨q, ys, rfl, hq, rq⟩ := hk.tup g.ex
          cases keysD_v rq hkey
          refine ⟨.dT (putK xs key vv), .dtt (r.put hv), fun Q q => .inr ⟨p, _, rfl, DPut.t hp hq ?_, q⟩⟩
          have := szOk_le hz
          have h2 := RepT.length r
          omega
      · cases h
    · cases h
  · cases h
theorem vw_some {δ : Env} {r : R} {d : D} (h : vw δ r = some d) : look r some δ = some (.ok d δ) := by
  unfold look; rw [h]; rfl
theorem sole_sub {a i : Expr} {p : Pos} {e : Expr} {l : Nat} {env : PySem.Env} : swapsWithSole [.Subscript a i p] e l env = pure false := by
  unfold swapsWithSole swapsWith
  cases e <;> rfl
theorem stores_sub {a i : Expr} {p : Pos} {e : Expr} {env : PySem.Env} : swappedStores [.Subscript a i p] e env = pure none := by
  unfold swappedStores
  cases e <;> rfl
theorem asg_sub {a i : Expr} {p : Pos} {env : PySem.Env} (h : noSlice i = true) : ∀ v, assign (.Subscript a i p) env v = (do
      let ov ← holding [v] (eval a env)
      let iv ← holding [v, ov] (eval i env)
      standAt p
      holding [v, ov, iv] (setItem ov iv v)
      release [v, ov, iv] []) := fun v => by
  cases i <;> first | rfl | cases h
theorem ownI_some {i : Nat} {δ : Env} {res : Res Unit} (h : ownI i δ = some res) : (∃ d, δ[i]? = some (some (.own d))) ∧ res = .ok () δ := by
  unfold ownI at h
  split at h
  · rename_i d hd
    exact ⟨⟨d, hd⟩, (Option.some.inj h).symm⟩
  · cases h
theorem sj_sto (o : XOkS X k Ns sc N cf) {e ix : Expr} {me mi : M R} {i : Nat} {x : Str} {p p2 : Pos} (hi : Ns[i]? = some x) (hv : visB sc x = true) (h1 : (x == ("__debug__" : Str)) = false) (h2 : (x == ("__classdict__" : Str)) = false) (hns : noSlice ix = true) (he : EJ N X e me) (hix : EJ N X ix mi) :
    SJ N X keep (.Assign [.Subscript (.Name x p) ix p2] e pos) (M.bnd me fun r => M.bnd (give r) fun v => M.bnd (ownI i) fun _ => M.bnd mi fun k => M.bnd (look k some) fun k => chg i fun c => storeD c k v) := by
  have hp : PS X (.Assign [.Subscript (.Name x p) ix p2] e pos) (tAsg (cE X e) (gSub (tVar i) (cE X ix) rSetB)) :=
    ps_asg (pe_c e) (pg_sub (pe_var (o.ix hi) (o.vis hv) h1 h2) (pe_c ix) (set_both o.hu) (asg_sub hns)) sole_sub stores_sub
  intro δ res h W σ Hb H E tk g post
  refine cS_of hp ?_
  rcases M.bnd_ok h with ⟨r, δ1, e1, h⟩ | ⟨c, fs, δ1, e1, rfl⟩
  · refine he δ _ e1 W σ Hb H _ tk g fun v Hb1 H1 s1 g1 r1 => ?_
    rcases M.bnd_ok h with ⟨vd, δ2, e2, h⟩ | ⟨c, fs, δ2, e2, rfl⟩
    · obtain ⟨d', δ2', Hb2, q2, s2, g2, r2, x2, _⟩ := g1.give s1 r1 e2
      cases q2
      rcases M.bnd_ok h with ⟨_, δ2', e2', h⟩ | ⟨c, fs, δ3, e3, rfl⟩
      · obtain ⟨⟨c0, hc0⟩, q2'⟩ := ownI_some e2'
        cases q2'
        obtain ⟨pp, ob0, hpp, _⟩ := g2.own i c0 hc0
        refine ⟨_, hpp, ?_⟩
        rcases M.bnd_ok h with ⟨kr, δ3, e3, h⟩ | ⟨c, fs, δ3, e3, rfl⟩
        · rcases M.bnd_ok h with ⟨kd, δ4, e4, h⟩ | ⟨c, fs, δ4, e4, rfl⟩
          · obtain ⟨kd', a, v4, hk, q4⟩ := look_ok e4
            cases q4
            cases hk
            obtain ⟨c, c', hc, hst, rfl⟩ := chg_some h
            refine hix δ2 _ e3 W σ Hb2 H1 _ tk g2 fun kv Hb3 H3 s3 g3 r3 => ?_
            obtain ⟨p', ob, z1, z2, z3, z4⟩ := g3.own i c hc
            rw [hpp] at z1
            cases z1
            obtain ⟨o', c1, c2⟩ := store_ok' g3 z3 z4 (g3.vw r3 v4) (r2.mono s3.hb) hst
            obtain ⟨g4, s4⟩ := g3.chg hc hpp c1
            exact c2 _ (post σ Hb3 _ ((s2.trans s3).trans s4) g4 fun _ _ => rfl)
          · obtain ⟨_, _, _, _, z⟩ := look_ok e4
            cases z
        · exact hix δ2 _ e3 W σ Hb2 H1 _ tk g2 fun cv dd Hb3 H3 s3 g3 r3 => post cv dd σ Hb3 H3 (s2.trans s3) g3 (fun _ _ => rfl) r3
      · have := (ownI_some e3).2
        cases this
    · obtain ⟨_, _, _, q2, _⟩ := g1.give s1 r1 e2
      cases q2
  · exact he δ _ e1 W σ Hb H _ tk g fun cv dd Hb1 H1 s1 g1 r1 => post cv dd σ Hb1 H1 s1 g1 (fun _ _ => rfl) r1
/-! ### fields -/
theorem RepF.put {K : PySem.W.Frag} {Hb : Hp} {f : Str} {v : V} {d : D} (hv : Rep K N Hb v d) : ∀ {xs : List (Str × V)} {ds : List (Str × D)}, RepF K N Hb xs ds → RepF K N Hb (putF f v xs) (putFD f d ds)
  | _, _, .nil => .cons hv .nil
  | _, _, .cons (k := g) a b => by
    unfold putF putFD
    by_cases e : g = f
    · rw [if_pos e, if_pos e]; exact .cons hv b
    · rw [if_neg e, if_neg e]; exact .cons a (RepF.put hv b)
theorem RepF.length {K : PySem.W.Frag} {Hb : Hp} : ∀ {xs : List (Str × V)} {ds : List (Str × D)}, RepF K N Hb xs ds → xs.length = ds.length
  | _, _, .nil => rfl
  | _, _, .cons _ b => by simp [RepF.length b]
theorem sw_att {a : Expr} {f : Str} {p : Pos} {e : Expr} {l : Nat} {env : PySem.Env} : swapsWith e (some (.Attribute a f p)) l env = pure false := by
  unfold swapsWith
  cases e <;> rfl
theorem sj_fld (o : XOkS X k Ns sc N cf) {e : Expr} {me : M R} {i : Nat} {x f : Str} {p p2 : Pos} (hi : Ns[i]? = some x) (hv : visB sc x = true) (h1 : (x == ("__debug__" : Str)) = false) (h2 : (x == ("__classdict__" : Str)) = false) (he : EJ N X e me) :
    SJ N X keep (.Assign [.Attribute (.Name x p) f p2] e pos) (M.bnd me fun r => M.bnd (give r) fun v => chg i (fldS cf f v)) := by
  have hp : PS X (.Assign [.Attribute (.Name x p) f p2] e pos) (sFld X.K (tVar i) (cE X e) f) := ps_fld (pe_var (o.ix hi) (o.vis hv) h1 h2) (pe_c e) sw_att
  intro δ res h W σ Hb H E tk g post
  refine cS_of hp ?_
  rcases M.bnd_ok h with ⟨r, δ1, e1, h⟩ | ⟨c, fs, δ1, e1, rfl⟩
  · refine he δ _ e1 W σ Hb H _ tk g fun v Hb1 H1 s1 g1 r1 => ?_
    rcases M.bnd_ok h with ⟨vd, δ2, e2, h⟩ | ⟨c, fs, δ2, e2, rfl⟩
    · obtain ⟨d', δ2', Hb2, q2, s2, g2, r2, x2, _⟩ := g1.give s1 r1 e2
      cases q2
      obtain ⟨c, c', hc, hst, rfl⟩ := chg_some h
      obtain ⟨pp, ob, z1, z2, z3, z4⟩ := g2.own i c hc
      refine ⟨_, z1, ?_⟩
      unfold fldS at hst
      split at hst
      · rename_i cn fs
        split at hst
        · rename_i l hl
          split at hst
          · rename_i hz
            cases hst
            have hz' := Bool.and_eq_true_iff.mp hz
            cases z4 with
            | @ins C dx _ xs _ hC rf =>
              obtain ⟨g4, s4⟩ := g2.chg hc z1 (o' := .ins C dx (putF f v xs)) (d' := .ins cn (putFD f vd fs)) (.ins hC (rf.put r2))
              refine ⟨pp, C, dx, xs, rfl, z3, o.tab.cls cn C hC (by rw [hl]; rfl), o.tab.fld cn C f l hC hl (of_decide_eq_true hz'.1), ?_, post σ Hb2 _ (s2.trans s4) g4 fun _ _ => rfl⟩
              have h9 := of_decide_eq_true hz'.2
              have h8 := RepF.length rf
              omega
          · cases hst
        · cases hst
      · cases hst
    · obtain ⟨_, _, _, q2, _⟩ := g1.give s1 r1 e2
      cases q2
  · exact he δ _ e1 W σ Hb H _ tk g fun cv dd Hb1 H1 s1 g1 r1 => post cv dd σ Hb1 H1 s1 g1 (fun _ _ => rfl) r1
/-! ### append -/
theorem sj_app (o : XOkS X k Ns sc N cf) {e : Expr} {me : M R} {i : Nat} {x : Str} {p apos cpos : Pos} (hi : Ns[i]? = some x) (hv : visB sc x = true) (h1 : (x == ("__debug__" : Str)) = false) (h2 : (x == ("__classdict__" : Str)) = false) (hs : noStar e = true) (hl : (apos.endLine == cpos.line) = true) (he : EJ N X e me) :
    SJ N X keep (.Expr (.Call (.Attribute (.Name x p) "append" apos) [e] [] cpos) pos) (fun δ => match δ[i]? with
      | some (some (.own (.lst _))) => M.bnd me (fun r => M.bnd (give r) fun v => chg i (appD v)) δ
      | _ => none) := by
  have few : ((backTo cpos (starEach [e] X.env)).all (fun x => !x.1) && (backToKw cpos (keywordEach [] X.env)).all (fun x => x.1.isSome)
      && decide (([e] : List Expr).length + ([] : List Keyword).length + (if ([] : List Keyword).isEmpty then 0 else 1) < 30)) = true := by
    rw [star_one hs]; rfl
  have hp : PS X (.Expr (.Call (.Attribute (.Name x p) "append" apos) [e] [] cpos) pos) (tDrop (tBM X.K "list" rAppend (tVar i) (tCons (cE X e) tNil))) :=
    ps_expr (pe_bm PySem.F.plainAttrs_list PySem.F.slot_list_append PySem.F.type_list_append mt_append (pe_var (o.ix hi) (o.vis hv) h1 h2) (pa_cons (pe_c e) pa_nil (star_ok hs)) (base_ok rfl) few hl (star_ok hs) rfl) (noComp_sw rfl)
  intro δ res h W σ Hb H E tk g post
  refine cS_of hp ?_
  dsimp only at h
  split at h
  · rename_i l0 hl0
    obtain ⟨pp, ob, z1, z2, z3, z4⟩ := g.own i _ hl0
    cases z4 with
    | @lst xs0 _ r0 =>
      refine ⟨_, z1, .inl ⟨rfl, xs0, .of z3⟩, ?_⟩
      rcases M.bnd_ok h with ⟨r, δ1, e1, h⟩ | ⟨c, fs, δ1, e1, rfl⟩
      · refine he δ _ e1 W σ Hb H _ tk g fun v Hb1 H1 s1 g1 r1 => ?_
        rcases M.bnd_ok h with ⟨vd, δ2, e2, h⟩ | ⟨c, fs, δ2, e2, rfl⟩
        · obtain ⟨d', δ2', Hb2, q2, s2, g2, r2, x2, _⟩ := g1.give s1 r1 e2
          cases q2
          obtain ⟨c, c', hc, hst, rfl⟩ := chg_some h
          obtain ⟨p', ob', y1, y2, y3, y4⟩ := g2.own i c hc
          rw [z1] at y1
          cases y1
          unfold appD at hst
          split at hst
          · split at hst
            · rename_i hz
              cases hst
              cases y4 with
              | @lst xs _ rr =>
                obtain ⟨g4, s4⟩ := g2.chg hc z1 (o' := .lst (xs ++ [v])) (.lst (rr.app (.cons r2 .nil)))
                refine ⟨pp, xs, v, rfl, rfl, y3, ?_, post σ Hb2 _ (s2.trans s4) g4 fun _ _ => rfl⟩
                have h9 := of_decide_eq_true hz
                have h8 := RepL.length rr
                rw [sizeLine_eq]
                omega
            · cases hst
          · cases hst
        · obtain ⟨_, _, _, q2, _⟩ := g1.give s1 r1 e2
          cases q2
      · exact he δ _ e1 W σ Hb H _ tk g fun cv dd Hb1 H1 s1 g1 r1 => post cv dd σ Hb1 H1 s1 g1 (fun _ _ => rfl) r1
  · cases h
end
end Rl

set_option Elab.async false
set_option linter.all false
set_option maxRecDepth 100000
set_option maxHeartbeats 4000000
/-! Lay W: several targets. -/
namespace Rl
open PySem L2
section
variable {X : Cx} {k : Nat} {Ns : List Str} {sc scope : Scope} {N : Nm} {cf : Cfg} {pos : Pos} {keep : Nat → Bool}
def isBor : R → Bool
  | .bor _ => true
  | _ => false
section
variable {K : PySem.W.Frag} {σ σ0 : L2.St} {δ δ0 : Env} {Hb Hb0 H H0 : Hp} {v : V} {r : R} {d : D}
theorem stay_ok : ∀ {rs : List R} {vs : List V} {δ : Env} {Hb : Hp} {res : Res (List R)}, Good K N σ δ Hb H → RRs K N σ δ Hb H0 H vs rs → stay rs δ = some res →
    ∃ rs' δ' Hb', res = .ok rs' δ' ∧ Stp σ δ Hb H σ δ' Hb' H ∧ Good K N σ δ' Hb' H ∧ RRs K N σ δ' Hb' H0 H vs rs' ∧ (∀ r ∈ rs', isBor r = false) ∧ ownA vs rs' = ownA vs rs ∧ Ex Hb Hb' ∧
      (∀ q, Hb q = none → ¬ Own σ δ q → Hb' q = none) ∧ (∀ q, Own σ δ' q → Own σ δ q)
  | [], vs, δ, Hb, res, g, ⟨h, nd⟩, e => by
    cases h
    cases (Option.some.inj e)
    exact ⟨[], δ, Hb, rfl, Stp.refl, g, ⟨.nil, nd⟩, (fun _ z => by cases z), rfl, Ex.refl _, fun _ a _ => a, fun _ a => a⟩
  | r :: rs, vs, δ, Hb, res, g, ⟨h, nd⟩, e => by
    cases h with
    | @cons v _ vs _ h1 h2 =>
    cases r with
    | bor j =>
      have e : M.bnd (give (.bor j)) (fun d => M.bnd (stay rs) fun l => M.ret (.dat d :: l)) δ = some res := e
      rcases M.bnd_ok e with ⟨d, δ1, e1, e2⟩ | ⟨c, fs, δ1, e1, e2⟩
      · obtain ⟨d', δ1', Hb1, q, s1, g1, r1, x1, _, o1, k1⟩ := g.give (Stp.refl (σ := σ) (δ := δ)) (show RR K N σ δ Hb H H v (.bor j) from h1) e1
        cases q
        have k1 := k1 fun _ z => nomatch z
        have h2' : RRl K N σ δ1 Hb1 H0 H vs rs := h2.given x1 o1 fun q hq => k1 q (h2.fresh q hq).2.1 (h2.fresh q hq).2.2.1
        rcases M.bnd_ok e2 with ⟨l, δ2, e3, e4⟩ | ⟨c, fs, δ2, e3, e4⟩
        · obtain ⟨rs', δ', Hb', q2, s2, g2, r2, b2, a2, x2, k2, o2⟩ := stay_ok g1 ⟨h2', nd⟩ e3
          cases q2
          cases (Option.some.inj e4)
          refine ⟨_, _, Hb', rfl, s1.trans s2, g2, ⟨.cons (show Rep K N Hb' v d from r1.mono x2) r2.1, r2.2⟩, fun r hr => ?_, a2, x1.trans x2, fun q a b => k2 q (k1 q a b) fun z => b (o1 q z), fun q a => o1 q (o2 q a)⟩
          rcases List.mem_cons.mp hr with z | z
          · subst z; rfl
          · exact b2 r z
        · obtain ⟨_, _, _, q2, _⟩ := stay_ok g1 ⟨h2', nd⟩ e3
          cases q2
      · obtain ⟨_, _, _, q, _⟩ := g.give (Stp.refl (σ := σ) (δ := δ)) (show RR K N σ δ Hb H H v (.bor j) from h1) e1
        cases q
    | dat d =>
      have e : M.bnd (stay rs) (fun l => M.ret (.dat d :: l)) δ = some res := e
      rcases M.bnd_ok e with ⟨l, δ2, e3, e4⟩ | ⟨c, fs, δ2, e3, e4⟩
      · obtain ⟨rs', δ', Hb', q2, s2, g2, r2, b2, a2, x2, k2, o2⟩ := stay_ok g ⟨h2, nd⟩ e3
        cases q2
        cases (Option.some.inj e4)
        refine ⟨_, _, Hb', rfl, s2, g2, ⟨.cons (show Rep K N Hb' v d from Rep.mono x2 h1) r2.1, r2.2⟩, fun r hr => ?_, a2, x2, k2, o2⟩
        rcases List.mem_cons.mp hr with z | z
        · subst z; rfl
        · exact b2 r z
      · obtain ⟨_, _, _, q2, _⟩ := stay_ok g ⟨h2, nd⟩ e3
        cases q2
    | own d =>
      have e : M.bnd (stay rs) (fun l => M.ret (.own d :: l)) δ = some res := e
      have nd' := List.nodup_cons.mp nd
      rcases M.bnd_ok e with ⟨l, δ2, e3, e4⟩ | ⟨c, fs, δ2, e3, e4⟩
      · obtain ⟨rs', δ', Hb', q2, s2, g2, r2, b2, a2, x2, k2, o2⟩ := stay_ok g ⟨h2, nd'.2⟩ e3
        cases q2
        cases (Option.some.inj e4)
        have h1' : RR K N σ δ2 Hb' H0 H v (.own d) := RR.given h1 x2 o2 fun q _ a b _ => k2 q a b
        refine ⟨_, _, Hb', rfl, s2, g2, ⟨.cons h1' r2.1, ?_⟩, fun r hr => ?_, by show adr v :: ownA vs l = adr v :: ownA vs rs; rw [a2], x2, k2, o2⟩
        · refine List.nodup_cons.mpr ⟨?_, r2.2⟩
          show adr v ∉ ownA vs l
          rw [a2]
          exact nd'.1
        · rcases List.mem_cons.mp hr with z | z
          · subst z; rfl
          · exact b2 r z
      · obtain ⟨_, _, _, q2, _⟩ := stay_ok g ⟨h2, nd'.2⟩ e3
        cases q2
/-- a result behind a store to a slot -/
theorem RR.stored {σ' : L2.St} {δ' : Env} {Hb' : Hp} (h : RR K N σ δ Hb H0 H v r) (hb : isBor r = false) (x : Ex Hb Hb') (o : ∀ a, v = .ref a → (∃ d, r = .own d) → Own σ' δ' a → Own σ δ a) (kk : ∀ a, v = .ref a → (∃ d, r = .own d) → Hb a = none → ¬ Own σ δ a → Hb' a = none) : RR K N σ' δ' Hb' H0 H v r := by
  cases r with
  | dat d => exact Rep.mono x h
  | bor i => cases hb
  | own d =>
    obtain ⟨p, ob, a, b, c, e, f, n⟩ := h
    exact ⟨p, ob, a, b, kk p a ⟨d, rfl⟩ c n, e, f.mono x, fun z => n (o p a ⟨d, rfl⟩ z)⟩
/-- the rest of the results, behind a store of the first -/
theorem rest_ok {rs : List R} {vs : List V} {i : Nat} {σ' : L2.St} {δ' : Env} {Hb' : Hp} (h1 : RR K N σ δ Hb H0 H v r) (h2 : RRl K N σ δ Hb H0 H vs rs) (nd : (ownA (v :: vs) (r :: rs)).Nodup) (nb : ∀ s ∈ rs, isBor s = false) (x : Ex Hb Hb')
    (ow : ∀ a, Own σ' δ' a → Own σ δ a ∨ (v = .ref a ∧ ∃ d, r = .own d)) (kb : Hb' = Hb) : RRs K N σ' δ' Hb' H0 H vs rs := by
  subst kb
  have nd2 : (ownA vs rs).Nodup := by
    cases r with
    | dat d => exact nd
    | bor i => exact nd
    | own d => exact (List.nodup_cons.mp nd).2
  refine ⟨?_, nd2⟩
  have na : ∀ a ∈ ownA vs rs, ∀ d, r = .own d → v ≠ .ref a := fun a ha d e z => by
    subst e
    subst z
    exact (List.nodup_cons.mp nd).1 ha
  clear nd nd2
  induction h2 with
  | nil => exact .nil
  | @cons u s us ss a b ih =>
    have nbs := nb s List.mem_cons_self
    refine .cons (a.stored nbs x (fun y e ⟨d, ed⟩ z => ?_) (fun y _ _ c _ => c)) (ih (fun s hs => nb s (List.mem_cons_of_mem _ hs)) fun y hy => na y ?_)
    · rcases ow y z with w | ⟨w, d', e'⟩
      · exact w
      · refine absurd w (na y ?_ d' e')
        subst ed
        subst e
        exact List.mem_cons_self
    · cases s with
      | dat d => exact hy
      | bor i => exact hy
      | own d => exact List.mem_cons_of_mem _ hy
end
/-! ### a, b = .., .. -/
theorem putT_nm {i : Nat} {ts : List MT} {r : R} {rs : List R} {δ : Env} {res : Res Fl} (h : putT cf keep (.nm i :: ts) (r :: rs) δ = some res) : (∃ f δ1, put keep i r δ = some (.ok f δ1) ∧ putT cf keep ts rs δ1 = some res) ∨ ∃ c fs δ1, put keep i r δ = some (.ex c fs δ1) ∧ res = .ex c fs δ1 := by
  have h : M.bnd (put keep i r) (fun _ => putT cf keep ts rs) δ = some res := h
  exact M.bnd_ok h
/-- the stores of plain names -/
theorem names_ok {K : PySem.W.Frag} {H H0 : Hp} {σ0 : L2.St} {δ0 : Env} {Hb0 : Hp} : ∀ {is : List Nat} {rs : List R} {vs : List V} {σ : L2.St} {δ : Env} {Hb : Hp} {res : Res Fl}, Good K N σ δ Hb H → Stp σ0 δ0 Hb0 H0 σ δ Hb H → RRs K N σ δ Hb H0 H vs rs → (∀ s ∈ rs, isBor s = false) →
    putT cf keep (is.map .nm) rs δ = some res → is.length = vs.length ∧ (∀ i ∈ is, keep i = false) ∧ ∃ δ' Hb', res = .ok .nx δ' ∧ Good K N ((is.zip vs).foldl (fun σ p => σ.set p.1 (some p.2)) σ) δ' Hb' H ∧ Stp σ0 δ0 Hb0 H0 ((is.zip vs).foldl (fun σ p => σ.set p.1 (some p.2)) σ) δ' Hb' H
  | [], rs, vs, σ, δ, Hb, res, g, s, ⟨h, nd⟩, nb, e => by
    cases h with
    | nil => cases (Option.some.inj e); exact ⟨rfl, (fun _ z => by cases z), δ, Hb, rfl, g, s⟩
    | cons a b => cases e
  | i :: is, rs, vs, σ, δ, Hb, res, g, s, ⟨h, nd⟩, nb, e => by
    cases h with
    | nil => cases e
    | @cons v r vs rs a b =>
      rcases putT_nm e with ⟨f, δ1, e1, e2⟩ | ⟨c, fs, δ1, e1, rfl⟩
      · obtain ⟨hk, δ', Hb', q, g1, s1, x1, o1, k1⟩ := put_ok g s a e1
        cases q
        have hbr := nb r List.mem_cons_self
        have kb := k1 fun j z => by subst z; cases hbr
        have r1 := rest_ok (i := i) a b nd (fun s hs => nb s (List.mem_cons_of_mem _ hs)) x1 o1 kb
        obtain ⟨h1, h2, δ2, Hb2, q2, g2, s2⟩ := names_ok g1 s1 r1 (fun s hs => nb s (List.mem_cons_of_mem _ hs)) e2
        refine ⟨by simp [h1], fun j hj => ?_, δ2, Hb2, q2, g2, s2⟩
        rcases List.mem_cons.mp hj with z | z
        · rw [z]; exact hk
        · exact h2 j z
      · obtain ⟨_, _, _, q, _⟩ := put_ok g s a e1
        cases q
theorem swap_eq (o : XOkS X k Ns sc N cf) {x y : Str} {a b : Expr} {px py pt pt2 : Pos} {kt k2 : Nat} (hx : sc.names.lookup x = some .local) (hy : sc.names.lookup y = some .local) (hxy : x ≠ y) (hl : px.line = py.line) (ha : noStar a = true) (hb : noStar b = true)
    (h1 : ([a, b].all (foldedForSure 8)) = false) (h2 : ([a, b].all (constantsAlone 8)) = false) : swappedStores [.Tuple [.Name x px, .Name y py] kt pt] (.Tuple [a, b] k2 pt2) X.env = pure (some [x, y]) := by
  have hk : X.env.scope.kind = .function := by rw [o.hsc]; exact o.kind
  have hbk : X.env.blockKind = .function := by
    unfold Env.blockKind
    rw [hk]
    rfl
  have kx : X.env.kindOf x = some .local := by show X.env.scope.names.lookup x = _; rw [o.hsc]; exact hx
  have ky : X.env.kindOf y = some .local := by show X.env.scope.names.lookup y = _; rw [o.hsc]; exact hy
  have na : ([a, b].any fun | .Starred .. => true | _ => false) = false := by
    rw [List.any_cons, List.any_cons, List.any_nil, Bool.or_false, Bool.or_eq_false_iff]
    constructor
    · cases a <;> first | rfl | cases ha
    · cases b <;> first | rfl | cases hb
  unfold swappedStores
  simp only [hbk, List.length_cons, List.length_nil, na, h1, h2, List.filterMap_cons, List.filterMap_nil, kx, ky, hl]
  have e1 : (Expr.Name x px).pos = px := rfl
  simp only [e1, List.head?_cons, Option.map_some, Option.getD_some, hl, beq_self_eq_true, Bool.and_self, if_true]
  have e2 : ([x, y].eraseDups.length != [x, y].length) = false := by
    simp [List.eraseDups_cons, hxy, Ne.symm hxy]
  simp [e2]
  refine (if_neg ?_).trans (if_pos ?_)
  · rintro (h | h)
    · cases a <;> first | (cases ha; done) | (simp at h; done)
    · cases b <;> first | (cases hb; done) | (simp at h; done)
  · simpa using e2
theorem noX_some {α : Type} {m : M α} {δ : Env} {res : Res α} (h : noX m δ = some res) : ∃ a δ', m δ = some (.ok a δ') ∧ res = .ok a δ' := by
  unfold noX at h
  split at h
  · rename_i a δ' e
    exact ⟨a, δ', e, (Option.some.inj h).symm⟩
  · cases h
theorem sj_par2 (o : XOkS X k Ns sc N cf) {x y : Str} {a b : Expr} {px py pt pt2 : Pos} {kt k2 i j : Nat} {ms : M (List R)} (hi : Ns[i]? = some x) (hj : Ns[j]? = some y) (hij : i ≠ j) (hx : sc.names.lookup x = some .local) (hy : sc.names.lookup y = some .local) (hxy : x ≠ y) (hl : px.line = py.line) (ha : noStar a = true) (hb : noStar b = true)
    (h1 : ([a, b].all (foldedForSure 8)) = false) (h2 : ([a, b].all (constantsAlone 8)) = false) (hm : AJ N X [a, b] ms) :
    SJ N X keep (.Assign [.Tuple [.Name x px, .Name y py] kt pt] (.Tuple [a, b] k2 pt2) pos) (M.bnd ms fun rs => M.bnd (stay rs) fun rs => noX (putT cf keep ([i, j].map .nm) rs)) := by
  have hp := ps_par (pos := pos) o.calm (by rw [o.hN]; exact o.nd) (o.ix hi) (o.ix hj) hij (by rw [o.hsc]; exact hx) (by rw [o.hsc]; exact hy) (pa_c [a, b]) (swap_eq o (kt := kt) (pt := pt) (k2 := k2) (pt2 := pt2) hx hy hxy hl ha hb h1 h2)
  intro δ res h W σ Hb H E tk g post
  refine cS_of hp ?_
  rcases M.bnd_ok h with ⟨rs, δ1, e1, h⟩ | ⟨c, fs, δ1, e1, rfl⟩
  · refine hm δ _ e1 W σ Hb H _ tk g fun vs Hb1 H1 s1 g1 r1 => ?_
    rcases M.bnd_ok h with ⟨rs', δ2, e2, h⟩ | ⟨c, fs, δ2, e2, rfl⟩
    · obtain ⟨rs2, δ2', Hb2, q2, s2, g2, r2, nb, _⟩ := stay_ok g1 r1 e2
      cases q2
      obtain ⟨fl, δ3', h9, rfl⟩ := noX_some h
      obtain ⟨hlen, hkeep, δ3, Hb3, q3, g3, s3⟩ := names_ok g2 (s1.trans s2) r2 nb h9
      cases q3
      match vs, hlen with
      | [v, w], _ =>
        refine ⟨v, w, rfl, post _ Hb3 H1 s3 g3 fun n hn => ?_⟩
        have k1 := hkeep i (by simp)
        have k2 := hkeep j (by simp)
        show ((σ.set i (some v)).set j (some w))[n]? = σ[n]?
        rw [keep_set k2 n hn, keep_set k1 n hn]
    · obtain ⟨_, _, _, q2, _⟩ := stay_ok g1 r1 e2
      cases q2
  · exact hm δ _ e1 W σ Hb H _ tk g fun cv dd Hb1 H1 s1 g1 r1 => post cv dd σ Hb1 H1 s1 g1 (fun _ _ => rfl) r1
end
end Rl

set_option Elab.async false
set_option linter.all false
set_option maxRecDepth 100000
set_option maxHeartbeats 4000000
/-! Lay X: several things stored at once. -/
namespace Rl
open PySem L2
section
variable {X : Cx} {k : Nat} {Ns : List Str} {sc scope : Scope} {N : Nm} {cf : Cfg} {pos : Pos} {keep : Nat → Bool}
inductive SbOk (N : Nm) (X : Cx) (Ns : List Str) (sc : Scope) (cf : Cfg) : List MT → List Expr → Prop
  | nil : SbOk N X Ns sc cf [] []
  | sb {i : Nat} {ix : ME} {x : Str} {p p2 : Pos} {ixe : Expr} {ts : List MT} {es : List Expr} : Ns[i]? = some x → visB sc x = true → (x == ("__debug__" : Str)) = false → (x == ("__classdict__" : Str)) = false → noSlice ixe = true → EJ N X ixe (evE cf ix) →
      SbOk N X Ns sc cf ts es → SbOk N X Ns sc cf (.sb i ix :: ts) (.Subscript (.Name x p) ixe p2 :: es)
theorem noBor_given {K : PySem.W.Frag} {σ : L2.St} {δ δ' : Env} {Hb Hb' H H0 : Hp} {v : V} {r : R} {d : D} {vs : List V} {rs : List R} (h2 : RRl K N σ δ Hb H0 H vs rs) (x : Ex Hb Hb') (o : ∀ q, Own σ δ' q → Own σ δ q) (k : ∀ q, Hb q = none → ¬ Own σ δ q → v ≠ .ref q → Hb' q = none)
    (na : ∀ q ∈ ownA vs rs, v ≠ .ref q) : RRl K N σ δ' Hb' H0 H vs rs :=
  h2.given x o fun q hq => k q (h2.fresh q hq).2.1 (h2.fresh q hq).2.2.1 (na q hq)
theorem putT_len : ∀ {ts : List MT} {rs : List R} {δ : Env} {f : Fl} {δ' : Env}, putT cf keep ts rs δ = some (.ok f δ') → rs.length = ts.length ∧ f = .nx
  | [], [], _, _, _, h => by cases (Option.some.inj h); exact ⟨rfl, rfl⟩
  | [], _ :: _, _, _, _, h => by cases h
  | .nm _ :: _, [], _, _, _, h => by cases h
  | .sb _ _ :: _, [], _, _, _, h => by cases h
  | .nm i :: ts, r :: rs, δ, f, δ', h => by
    have h : M.bnd (put keep i r) (fun _ => putT cf keep ts rs) δ = some (.ok f δ') := h
    rcases M.bnd_ok h with ⟨_, _, _, h⟩ | ⟨_, _, _, _, z⟩
    · exact ⟨by simp [(putT_len h).1], (putT_len h).2⟩
    · cases z
  | .sb i ix :: ts, r :: rs, δ, f, δ', h => by
    have h : M.bnd (give r) (fun v => M.bnd (ownI i) fun _ => M.bnd (evE cf ix) fun k => M.bnd (look k some) fun k => M.bnd (chg i fun c => storeD c k v) fun _ => putT cf keep ts rs) δ = some (.ok f δ') := h
    rcases M.bnd_ok h with ⟨_, _, _, h⟩ | ⟨_, _, _, _, z⟩
    · rcases M.bnd_ok h with ⟨_, _, _, h⟩ | ⟨_, _, _, _, z⟩
      · rcases M.bnd_ok h with ⟨_, _, _, h⟩ | ⟨_, _, _, _, z⟩
        · rcases M.bnd_ok h with ⟨_, _, _, h⟩ | ⟨_, _, _, _, z⟩
          · rcases M.bnd_ok h with ⟨_, _, _, h⟩ | ⟨_, _, _, _, z⟩
            · exact ⟨by simp [(putT_len h).1], (putT_len h).2⟩
            · cases z
          · cases z
        · cases z
      · cases z
    · cases z
theorem sb_ok (o : XOkS X k Ns sc N cf) : ∀ {ts : List MT} {es : List Expr}, SbOk N X Ns sc cf ts es → ∃ t, PGs X es t ∧ (assignEach es X.env).length = ts.length ∧ (assignEach es X.env).findIdx? (·.1) = none ∧ es.length = ts.length ∧ (∀ e ∈ es, ∀ y q, e ≠ .Name y q) ∧
    ∀ {rs : List R} {vs : List V} {σ : L2.St} {δ δ0 : Env} {Hb H Hb0 H0 : Hp} {δe : Env} {W : WX} {E : Ends}, Takes X W → Good X.K N σ δ Hb H → Stp σ δ0 Hb0 H0 σ δ Hb H → RRs X.K N σ δ Hb H0 H vs rs → (∀ s ∈ rs, isBor s = false) →
      putT cf keep ts rs δ = some (.ok .nx δe) → SPost X.K N keep W σ δ0 Hb0 H0 E (.ok .nx δe) → vs.length = ts.length ∧ t vs σ H E.nx := by
  intro ts es h
  induction h with
  | nil =>
    refine ⟨gNil, pgs_nil, rfl, rfl, rfl, (fun _ z => by cases z), ?_⟩
    intro rs vs σ δ δ0 Hb H Hb0 H0 δe W E tk g s ⟨r, _⟩ nb e post
    cases r with
    | nil => cases (Option.some.inj e); exact ⟨rfl, rfl, post σ Hb H s g fun _ _ => rfl⟩
    | cons => cases e
  | @sb i ix x p p2 ixe ts es hi hv h1 h2 hns he _ ih =>
    obtain ⟨t, pt, q1, q2, q3, q4, rd⟩ := ih
    refine ⟨gCons (gSub (tVar i) (cE X ixe) rSetB) t, pgs_cons (pg_sub (pe_var (o.ix hi) (o.vis hv) h1 h2) (pe_c ixe) (set_both o.hu) (asg_sub hns)) pt, ?_, ?_, by simp [q3], ?_, ?_⟩
    · show (assignEach es X.env).length + 1 = ts.length + 1
      rw [q1]
    · show List.findIdx? _ ((false, assign (.Subscript (.Name x p) ixe p2) X.env) :: assignEach es X.env) = none
      rw [List.findIdx?_cons]
      simp only [Bool.false_eq_true, if_false]
      rw [q2]
      rfl
    · intro e he y q z
      rcases List.mem_cons.mp he with z2 | z2
      · subst z2; cases z
      · exact q4 e z2 y q z
    · intro rs vs σ δ δ0 Hb H Hb0 H0 δe W E tk g s ⟨r, nd⟩ nb e post
      cases r with
      | nil => cases e
      | @cons v r vs rs a b =>
        have e : M.bnd (give r) (fun v => M.bnd (ownI i) fun _ => M.bnd (evE cf ix) fun k => M.bnd (look k some) fun k => M.bnd (chg i fun c => storeD c k v) fun _ => putT cf keep ts rs) δ = some (.ok .nx δe) := e
        rcases M.bnd_ok e with ⟨vd, δ1, e1, e⟩ | ⟨c, fs, δ1, e1, e2⟩
        · obtain ⟨d', δ1', Hb1, z1, s1, g1, r1, x1, k1, o1, k2⟩ := g.give s a e1
          cases z1
          have nd2 : (ownA vs rs).Nodup ∧ ∀ q ∈ ownA vs rs, (∃ d, r = .own d) → v ≠ .ref q := by
            cases r with
            | dat d => exact ⟨nd, fun _ _ ⟨_, z⟩ => nomatch z⟩
            | bor i => exact ⟨nd, fun _ _ ⟨_, z⟩ => nomatch z⟩
            | own d => exact ⟨(List.nodup_cons.mp nd).2, fun q hq _ z => (List.nodup_cons.mp nd).1 (by rw [z]; exact hq)⟩
          have b1 : RRl X.K N σ δ1 Hb1 H0 H vs rs := by
            refine b.given x1 o1 fun q hq => ?_
            obtain ⟨_, f2, f3, _⟩ := b.fresh q hq
            cases r with
            | dat d => exact k2 (fun _ z => nomatch z) q f2 f3
            | bor i => exact absurd (nb _ List.mem_cons_self) (by simp [isBor])
            | own d => exact k1 q f2 f3 (nd2.2 q hq ⟨d, rfl⟩)
          rcases M.bnd_ok e with ⟨_, δ1', e2, e⟩ | ⟨c, fs, δ2, e2, z⟩
          · obtain ⟨⟨c0, hc0⟩, z2⟩ := ownI_some e2
            cases z2
            obtain ⟨pp, ob0, hpp, _⟩ := g1.own i c0 hc0
            rcases M.bnd_ok e with ⟨kr, δ3, e3, e⟩ | ⟨c, fs, δ3, e3, z⟩
            · rcases M.bnd_ok e with ⟨kd, δ4, e4, e⟩ | ⟨c, fs, δ4, e4, z⟩
              · obtain ⟨kd', a', v4, hk, z4⟩ := look_ok e4
                cases z4
                cases hk
                rcases M.bnd_ok e with ⟨fl, δ5, e5, e⟩ | ⟨c, fs, δ5, e5, z⟩
                · obtain ⟨c, c', hc, hst, z5⟩ := chg_some e5
                  cases z5
                  have lens : vs.length = ts.length := by
                    have h1 := RRl.length b
                    exact h1.trans (putT_len e).1
                  refine ⟨by simp [lens], v, vs, rfl, _, hpp, ?_⟩
                  refine he δ1 _ e3 W σ Hb1 H _ tk g1 fun kv Hb3 H3 s3 g3 r3 => ?_
                  obtain ⟨p', ob, y1, y2, y3, y4⟩ := g3.own i c hc
                  rw [hpp] at y1
                  cases y1
                  obtain ⟨o', c1, c2⟩ := store_ok' g3 y3 y4 (g3.vw r3 v4) (r1.mono s3.hb) hst
                  obtain ⟨g4, s4⟩ := g3.chg hc hpp c1
                  have st := s3.trans s4
                  exact c2 _ (rd tk g4 (s1.trans st) ⟨b1.keep st, nd2.1⟩ (fun s hs => nb s (List.mem_cons_of_mem _ hs)) e post).2
                · cases z
              · cases z
            · cases z
          · cases z
        · cases e2
theorem stores_long {ts es : List Expr} {kt k2 : Nat} {pt pt2 : Pos} {env : PySem.Env} (h : ∀ e ∈ ts, ∀ y q, e ≠ .Name y q) (h0 : ts ≠ []) : swappedStores [.Tuple ts kt pt] (.Tuple es k2 pt2) env = pure none := by
  unfold swappedStores
  have e0 : ∀ f : Expr → Option Str, (∀ e ∈ ts, f e = none) → ts.filterMap f = [] := fun f hf => List.filterMap_eq_nil_iff.mpr hf
  have hl : ([] : List Str).length != ts.length := by
    cases ts with
    | nil => exact absurd rfl h0
    | cons => rfl
  dsimp only
  split
  · rfl
  · split
    · rfl
    · rw [if_pos]
      · rw [Bool.or_eq_true]
        left
        rw [e0 _ (fun e he => by cases e <;> first | rfl | exact absurd rfl (h _ he _ _))]
        exact hl
theorem sj_parS (o : XOkS X k Ns sc N cf) {ts : List MT} {es vs : List Expr} {kt k2 : Nat} {pt pt2 : Pos} {ms : M (List R)} (h0 : ts ≠ []) (hl : ts.length ≤ 30) (hs : SbOk N X Ns sc cf ts es) (hm : AJ N X vs ms) :
    SJ N X keep (.Assign [.Tuple es kt pt] (.Tuple vs k2 pt2) pos) (M.bnd ms fun rs => M.bnd (stay rs) fun rs => noX (putT cf keep ts rs)) := by
  obtain ⟨t, pt', q1, q2, q3, q4, rd⟩ := sb_ok (keep := keep) o hs
  have hp := ps_asg (pos := pos) (pe_tup (x1 := k2) (pos := pt2) (pa_c vs)) (pg_tup (k := kt) (pos := pt) o.calm pt' q1 q2) rfl (stores_long q4 (by intro z; subst z; exact h0 (List.length_eq_zero_iff.mp q3.symm))) rfl
  intro δ res h W σ Hb H E tk g post
  refine cS_of hp ?_
  rcases M.bnd_ok h with ⟨rs, δ1, e1, h⟩ | ⟨c, fs, δ1, e1, rfl⟩
  · refine hm δ _ e1 W σ Hb H _ tk g fun xs Hb1 H1 s1 g1 r1 => ?_
    rcases M.bnd_ok h with ⟨rs', δ2, e2, h⟩ | ⟨c, fs, δ2, e2, rfl⟩
    · obtain ⟨rs2, δ2', Hb2, z2, s2, g2, r2, nb, _⟩ := stay_ok g1 r1 e2
      cases z2
      obtain ⟨fl, δ3, h9, rfl⟩ := noX_some h
      have hlen : xs.length = ts.length := (RRl.length r2.1).trans (putT_len h9).1
      have hfl := (putT_len h9).2
      subst hfl
      refine ⟨by rw [hlen, sizeLine_eq]; omega, fun p hp => ?_⟩
      refine ⟨p, xs, rfl, .of upd_same, by rw [hlen], ?_⟩
      have sl : Stp σ δ2 Hb2 H1 σ δ2 Hb2 (upd H1 p (.tup xs)) := Stp.laid hp
      exact (rd tk (g2.laid hp) ((s1.trans s2).trans sl) ⟨r2.1.keep sl, r2.2⟩ nb h9 post).2
    · obtain ⟨_, _, _, q2, _⟩ := stay_ok g1 r1 e2
      cases q2
  · exact hm δ _ e1 W σ Hb H _ tk g fun cv dd Hb1 H1 s1 g1 r1 => post cv dd σ Hb1 H1 s1 g1 (fun _ _ => rfl) r1
end
end Rl

set_option Elab.async false
set_option linter.all false
set_option maxRecDepth 100000
set_option maxHeartbeats 4000000
/-! Lay XA: own classes of errors under one base; they are made. -/
namespace Rl
open PySem L2
/-- the base of the errors, at B: its __init__ is the built-in's -/
structure RootAt (K : PySem.W.Frag) (mg : Str → Option Value) (B : Addr) : Prop where
  mgB : mg "RaceError" = some (.ref B)
  sp : PySem.W.specialIn K (.ref B) "__getattribute__" = some (some (.builtin "type.__getattribute__"))
  rd : PySem.W.readsIn K B (.type "type") = true
  fc : PySem.W.findCls K (.ref B) (.type "type") "__init__" = some (.val (.builtin "ValueError.__init__"))
section
variable {X : Cx} {B C : Addr} {e : Expr} {es : List Expr} {ta : TA} {p1 p2 pos : Pos}
theorem pe_rinit (R : RootAt X.K X.mg B) (hg : Gl X "RaceError") (ha : PA X (e :: es) ta) (he : starEach (e :: es) X.env = (false, eval e X.env) :: starEach es X.env) (hpl : (backTo pos (starEach es X.env)).any (·.1) = false)
    (hs : (e :: es).all noStar = true) (hn : (e :: es).length < 30) (hl : (p2.endLine == pos.line) = true) :
    PE X (.Call (.Attribute (.Name "RaceError" p1) "__init__" p2) (e :: es) [] pos) (tVeI X.K ta) := by
  refine ⟨fun pins s σ H Q I h => ?_⟩
  refine PySem.W.methodCall_KW (ld_glob I hg R.mgB ?_ (by decide +kernel)) (eval_meth rfl hs hn hl)
  refine PySem.W.method_cls I.kIn R.sp (PySem.W.cls_value I.kIn R.rd R.fc (by decide +kernel) ?_)
  refine PyProof.Rows.callWith_method1 (thn (ha.run pos pins _ σ H _ (I.tok _) h) fun us s1 z => ?_) he hpl
  obtain ⟨vs, H1, I1, r1, a, C, ws, ev, hl, T, ea, q⟩ := z
  subst ev
  cases r1 with
  | @cons _ u0 _ ur ra rw' =>
    have eu : u0 = Value.ref a := ra
    subst eu
    have hn : ur.length ≤ sizeLine := by
      have h1 := Paired.length rw'
      rw [sizeLine_eq]
      omega
    exact oinit_ok T I1 ea hn fun s' J => ⟨.non, H1, J, rfl, q⟩
end
/-- the stores of an error's __init__ -/
def stoTxt : List Str → List Stmt → Bool
  | [], [] => true
  | f :: fl, .Assign [.Attribute (.Name s _) g _] (.Name y _) _ :: r => decide (s = ("self" : Str)) && (decide (g = f) && (decide (y = f) && stoTxt fl r))
  | _, _ => false
/-- the text of an error's __init__ -/
def iniTxt (fl : List Str) : List Stmt → Bool
  | .Expr (.Call (.Attribute (.Name b _) i q) [.Name s _, .Constant (.str _) _ _] [] p) _ :: r => (q.endLine == p.line) && (decide (b = ("RaceError" : Str)) && (decide (i = ("__init__" : Str)) && (decide (s = ("self" : Str)) && stoTxt fl r)))
  | _ => false
theorem sto_nil {l : List Stmt} (h : stoTxt [] l = true) : l = [] := by
  cases l with
  | nil => rfl
  | cons => cases h
theorem sto_cons {f : Str} {fl : List Str} {l : List Stmt} (h : stoTxt (f :: fl) l = true) : ∃ r1 r2 r3 r4 rr, l = .Assign [.Attribute (.Name "self" r1) f r2] (.Name f r3) r4 :: rr ∧ stoTxt fl rr = true := by
  unfold stoTxt at h
  split at h
  · rename_i q; cases q
  · rename_i f' fl' s r1 g r2 y r3 r4 rr e
    cases e
    rw [Bool.and_eq_true, Bool.and_eq_true, Bool.and_eq_true, decide_eq_true_eq, decide_eq_true_eq, decide_eq_true_eq] at h
    obtain ⟨rfl, rfl, rfl, h⟩ := h
    exact ⟨_, _, _, _, _, rfl, h⟩
  · cases h
theorem ini_txt {fl : List Str} {l : List Stmt} (h : iniTxt fl l = true) : ∃ p1 q p3 cs k p4 p p6 r, l = .Expr (.Call (.Attribute (.Name "RaceError" p1) "__init__" q) [.Name "self" p3, .Constant (.str cs) k p4] [] p) p6 :: r ∧ (q.endLine == p.line) = true ∧ stoTxt fl r = true := by
  unfold iniTxt at h
  split at h
  · rw [Bool.and_eq_true, Bool.and_eq_true, Bool.and_eq_true, Bool.and_eq_true, decide_eq_true_eq, decide_eq_true_eq, decide_eq_true_eq] at h
    obtain ⟨h0, rfl, rfl, rfl, h⟩ := h
    exact ⟨_, _, _, _, _, _, _, _, _, rfl, h0, h⟩
  · cases h
section
variable {P : Program} {w : World} {K : PySem.W.Frag} {mg : Str → Option Value} {base : Heap} {B : Addr}
theorem gl_sc {X : Cx} {x : Str} (h : glB X.env.scope x = true) : Gl X x := by
  show X.env.scope.names.lookup x = some .globalImplicit
  unfold glB at h
  cases e : X.env.scope.names.lookup x with
  | none => rw [e] at h; cases h
  | some k => rw [e] at h; cases k <;> simp_all
theorem pe_sup {X : Cx} (R : RootAt X.K X.mg B) (hg : glB X.env.scope "RaceError" = true) (h0 : X.N[0]? = some ("self" : Str)) (hv : visB X.env.scope "self" = true) {p1 q p3 p4 p : Pos} {cs : Str} {k : Nat} (hl : (q.endLine == p.line) = true) :
    PE X (.Call (.Attribute (.Name "RaceError" p1) "__init__" q) [.Name "self" p3, .Constant (.str cs) k p4] [] p) (tVeI X.K (tCons (tVar 0) (tCons (tC (.str cs)) tNil))) :=
  pe_rinit R (gl_sc hg) (pa_cons (pe_var (i := 0) h0 (vis_of hv) (by decide +kernel) (by decide +kernel)) (pa_cons pe_str pa_nil)) rfl rfl rfl (by show 2 < 30; decide) hl
theorem ps_sto {X : Cx} {f : Str} {i : Nat} {r1 r2 r3 r4 : Pos} (h0 : X.N[0]? = some ("self" : Str)) (hv0 : visB X.env.scope "self" = true) (hi : X.N[i]? = some f) (hv : visB X.env.scope f = true) (h1 : (f == ("__debug__" : Str)) = false) (h2 : (f == ("__classdict__" : Str)) = false) :
    PS X (.Assign [.Attribute (.Name "self" r1) f r2] (.Name f r3) r4) (tOst X.K f (tVar 0) (tVar i)) :=
  ps_ost (pe_var h0 (vis_of hv0) (by decide +kernel) (by decide +kernel)) (pe_var hi (vis_of hv) h1 h2)
theorem len1 {cs : Str} : [V.str cs].length ≤ 1000 := by show 1 ≤ 1000; decide
/-- the text, and its names -/
structure IniTx (fl : List Str) (st : Stmt) : Prop where
  S : FnScope ("self" :: fl) ("self" :: fl) (defScope st)
  hg : glB (defScope st) "RaceError" = true
  hv : ∀ y ∈ ("self" : Str) :: fl, visB (defScope st) y = true
  hd : ∀ y ∈ fl, (y == ("__debug__" : Str)) = false ∧ (y == ("__classdict__" : Str)) = false
  tx : iniTxt fl (defBody st) = true
theorem ini0 {x qual : Str} {st : Stmt} {f : Addr} {fd : FuncData} (R : RootAt K mg B) (Fu : Fun K x qual st f fd) (T : IniTx [] st) : FnOk P w K mg base (L2.CX P w) (0 + 1) f fd ["self"] (spI K []) := by
  refine Fun.okX Fu T.S (fun vs H Q E h => ?_) fun cdv A outer s H vs Q E hr hsp => ?_
  · obtain ⟨a, C, rfl, _⟩ := h
    rfl
  · obtain ⟨a, C, rfl, TC, ea, q⟩ := hsp
    obtain ⟨p1, q1, p3, cs, k, p4, p, p6, r, hb, hl, h4⟩ := ini_txt T.tx
    cases sto_nil h4
    rw [hb]
    refine ⟨_, pss_cons (ps_expr (pe_sup R T.hg rfl (T.hv _ List.mem_cons_self) hl)) pss_nil, ?_⟩
    exact ⟨.ref a, rfl, a, C, [.str cs], rfl, len1, TC, ea, q⟩
theorem ini1 {x qual g : Str} {st : Stmt} {f : Addr} {fd : FuncData} (R : RootAt K mg B) (Fu : Fun K x qual st f fd) (T : IniTx [g] st) : FnOk P w K mg base (L2.CX P w) (0 + 1) f fd ["self", g] (spI K [g]) := by
  refine Fun.okX Fu T.S (fun vs H Q E h => ?_) fun cdv A outer s H vs Q E hr hsp => ?_
  · obtain ⟨a, C, v, rfl, _⟩ := h
    rfl
  · obtain ⟨a, C, v, rfl, TC, nf, ea, q⟩ := hsp
    obtain ⟨p1, q1, p3, cs, k, p4, p, p6, r, hb, hl, h4⟩ := ini_txt T.tx
    obtain ⟨r1, r2, r3, r4, rr, rfl, h5⟩ := sto_cons h4
    cases sto_nil h5
    rw [hb]
    have hv1 := T.hv g (by simp)
    have hd1 := T.hd g (by simp)
    refine ⟨_, pss_cons (ps_expr (pe_sup R T.hg rfl (T.hv _ List.mem_cons_self) hl)) (pss_cons (ps_sto (i := 1) rfl (T.hv _ List.mem_cons_self) rfl hv1 hd1.1 hd1.2) pss_nil), ?_⟩
    refine ⟨.ref a, rfl, a, C, [.str cs], rfl, len1, TC, ea, ?_⟩
    exact ⟨v, rfl, .ref a, rfl, a, C, rfl, TC, nf, .inl ⟨ea, fun dx hd hn => q dx hd hn⟩⟩
theorem ini2 {x qual g1 g2 : Str} {st : Stmt} {f : Addr} {fd : FuncData} (R : RootAt K mg B) (Fu : Fun K x qual st f fd) (T : IniTx [g1, g2] st) : FnOk P w K mg base (L2.CX P w) (0 + 1) f fd ["self", g1, g2] (spI K [g1, g2]) := by
  refine Fun.okX Fu T.S (fun vs H Q E h => ?_) fun cdv A outer s H vs Q E hr hsp => ?_
  · obtain ⟨a, C, v, w, rfl, _⟩ := h
    rfl
  · obtain ⟨a, C, v, w, rfl, TC, nf, nf2, ea, q⟩ := hsp
    obtain ⟨p1, q1, p3, cs, k, p4, p, p6, r, hb, hl, h4⟩ := ini_txt T.tx
    obtain ⟨r1, r2, r3, r4, rr, rfl, h5⟩ := sto_cons h4
    obtain ⟨t1, t2, t3, t4, tr, rfl, h6⟩ := sto_cons h5
    cases sto_nil h6
    rw [hb]
    have hv1 := T.hv g1 (by simp)
    have hd1 := T.hd g1 (by simp)
    have hv2 := T.hv g2 (by simp)
    have hd2 := T.hd g2 (by simp)
    refine ⟨_, pss_cons (ps_expr (pe_sup R T.hg rfl (T.hv _ List.mem_cons_self) hl)) (pss_cons (ps_sto (i := 1) rfl (T.hv _ List.mem_cons_self) rfl hv1 hd1.1 hd1.2) (pss_cons (ps_sto (i := 2) rfl (T.hv _ List.mem_cons_self) rfl hv2 hd2.1 hd2.2) pss_nil)), ?_⟩
    refine ⟨.ref a, rfl, a, C, [.str cs], rfl, len1, TC, ea, ?_⟩
    refine ⟨v, rfl, .ref a, rfl, a, C, rfl, TC, nf, .inl ⟨ea, fun dx hd hn => ?_⟩⟩
    refine ⟨w, rfl, .ref a, rfl, a, C, rfl, TC, nf2, .inr ⟨dx, [(g1, v)], upd_same, ?_, by show 1 ≤ 900; decide, ?_⟩⟩
    · rw [upd_ne hn, upd_same]
    · exact q dx hd hn
end
end Rl

set_option Elab.async false
set_option linter.all false
set_option maxRecDepth 100000
set_option maxHeartbeats 4000000
/-! Lay XB: errors are raised. -/
namespace Rl
open PySem L2 PySem.Spec PyProof.Rows
section
variable {X : Cx}
/-- an error without a dict: its object is let go -/
theorem mk_bare {pins : List (Addr × Obj)} {σ : L2.St} {H1 H2 : Hp} {Q : XK} {hp hp2 h2 : Heap} {g1 g2 : Array GenState} {d1 d2 : Drawn} {t1 t2 : Nat} {os1 os2 : OsState} {a C : Addr} (T : Raises X (.ref C)) (I1 : Inv X pins σ H1 ⟨hp, g1, d1, t1, os1⟩)
    (ha : hp.objs.size ≤ a) (k : ∀ b o, hp.get? b = some o → hp2.get? b = some o) (un : Un (frs X.stack) [] (upd H1 a (exo a C none)) H2 hp2 h2) (hok : HOk X.prog X.w H2 h2) (ho : os2 = os1) (hb : AllBare g2)
    (ea : H2 a = some (exo a C none)) (q : Q (.ref C) none (del H2 a)) : MkP X pins σ Q (.ref a) ⟨h2, g2, d2, t2, os2⟩ := by
  obtain ⟨t0, hoe⟩ := exo_at hok ea
  have hn : H1 a = none := I1.hok.fresh ha
  obtain ⟨G, gA, gB⟩ := restrict h2 fun b => decide (b ≠ a)
  have gk : ∀ b, b ≠ a → G.get? b = h2.get? b := fun b hb => gA b (decide_eq_true hb)
  have ge : G.get? a = none := gB a (by simp)
  have away : ∀ {b : Addr} {o : Obj}, hp.get? b = some o → b ≠ a := fun z => Nat.ne_of_lt (Nat.lt_of_lt_of_le (Heap.lt_size z) ha)
  have low : ∀ {b : Addr}, b ≠ a → H1 b = none → upd H1 a (exo a C none) b = none := fun hb n => (upd_ne hb).trans n
  have up1 : ∀ {b : Addr} {o : HO}, H1 b = some o → upd H1 a (exo a C none) b = some o := fun z => (upd_ne (ne_of_none z hn)).trans z
  have U : Un (frs X.stack) [] H1 (del H2 a) hp G := {
    keep := fun b o z n hf hx => (gk b (away z)).trans (un.keep b o (k b o z) (low (away z) n) hf hx)
    slot := fun b o z n hf hx => by
      obtain ⟨sl, e⟩ := un.slot b o (k b o z) (low (away z) n) hf hx
      exact ⟨sl, (gk b (away z)).trans e⟩
    free := fun b o z n hx => (del_ne (away z)).trans (un.free b o (k b o z) (low (away z) n) hx)
    there := fun b o z hx => by
      obtain ⟨o', e⟩ := un.there b o (k b o z) hx
      exact ⟨o', (gk b (away z)).trans e⟩
    tups := fun b xs z => (del_ne (ne_of_none z hn)).trans (un.tups b xs (up1 z))
    frzs := fun b o v z => (del_ne (ne_of_none z hn)).trans (un.frzs b o v (up1 z))
    tbls := fun b ps z => by
      rw [del_ne (ne_of_none z hn)]
      exact un.tbls b ps (up1 z) }
  have hok3 : HOk X.prog X.w (del H2 a) G := fun b o z => by
    have hba : b ≠ a := fun e => by
      rw [e, del_same] at z
      cases z
    rw [del_ne hba] at z
    have noa : ∀ {c : Addr}, H2 c = some (.own b) → c ≠ a := fun hc => at_ne ea hc exo_own
    refine (hok b o z).stay (fun c v hc y => ?_) (fun c hc => (del_ne (noa hc)).trans hc) fun c xs hc => (del_ne (at_ne ea hc exo_tup)).trans hc
    rcases hc with hc | hc
    · subst hc; exact (gk _ hba).trans y
    · exact (gk _ (noa hc)).trans y
  have J : Inv X pins σ (del H2 a) ⟨G, g2, d2, t2, os2⟩ := I1.call' (ch := []) ho U hok3 hb (fun b z => absurd z (by simp))
  refine ⟨a, _, _, ⟨G, g2, d2, t2, os2⟩, _, .ref C, none, rfl, J, fun b o z => ?_, ge, hoe, ⟨rfl, rfl⟩, rfl, rfl, del_same, rfl, hb, T, q⟩
  by_cases hba : b = a
  · rw [hba, ge] at z
    cases z
  · exact (gk b hba).symm.trans z
/-- C(), its __init__ keeping the promise without fields -/
theorem pmk_bare {CX : CXT} {x : Str} {C fI : Addr} {k : Nat} {fd : FuncData} {p pos : Pos} (T : OexC X.K C) (iC : PySem.W.findIn X.K (.ref C) "__init__" = some (some (.ref fI))) (tI : PySem.W.typeIn X.K (.ref fI) = some (.type "function"))
    (F1 : FnOk X.prog X.w X.K X.mg X.base CX k fI fd ["self"] (spI X.K [])) (hr : Room (k + 1) X.A) (hb : Binds X.K fd ["self"] []) (hx : Passes CX X (fun _ _ _ => False)) (hg : Gl X x) (hm : X.mg x = some (.ref C))
    (hdb : (x == ("__debug__" : Str)) = false) : PMk X (.Call (.Name x p) [] [] pos) (fun _ H Q => Q (.ref C) none H) := by
  intro pins s σ H Q I h
  obtain ⟨nm, q, N, bs, bm, sn, sub, ab, col, dd, k0, k1, k2, k3, k5, hC, hbm⟩ := T.cls
  refine wpAny_Call_Name_kw (ld_glob I hg hm ?_ hdb)
  refine PySem.W.callWith_K0 I.kIn T.kC ?_
  show wpAny _ _ (call (.ref C) []) _ _ _
  obtain ⟨hp, g, dr, tk, os⟩ := s
  have hsz : hp.objs.size ≤ hp.objs.size + 1 := Nat.le_succ _
  have hn : H (hp.objs.size + 1) = none := I.hok.fresh hsz
  have kk : ∀ b o, hp.get? b = some o → ((hp.push (PySem.W.kdv_tup [])).push (PySem.HandSPX.excO C hp.objs.size)).get? b = some o := fun b o e => Heap.get?_push_of_some _ (Heap.get?_push_of_some _ e)
  have hget : ((hp.push (PySem.W.kdv_tup [])).push (PySem.HandSPX.excO C hp.objs.size)).get? (hp.objs.size + 1) = some (PySem.HandSPX.excO C hp.objs.size) := by heap_get
  have I2 : Inv X pins σ (upd H (hp.objs.size + 1) (exo (hp.objs.size + 1) C none)) ⟨(hp.push (PySem.W.kdv_tup [])).push (PySem.HandSPX.excO C hp.objs.size), g, dr, tk, os⟩ :=
    I.laid (t' := tk) (a := hp.objs.size + 1) (o := exo (hp.objs.size + 1) C none) (h' := (hp.push (PySem.W.kdv_tup [])).push (PySem.HandSPX.excO C hp.objs.size)) kk hsz (exo_ok hget)
  have r2 : Vals [V.ref (hp.objs.size + 1)] [Value.ref (hp.objs.size + 1)] := .cons rfl .nil
  have hq : spI X.K [] [V.ref (hp.objs.size + 1)] (upd H (hp.objs.size + 1) (exo (hp.objs.size + 1) C none)) (fun v H2 => v = .non ∧ H2 = upd H (hp.objs.size + 1) (exo (hp.objs.size + 1) C none)) (fun _ _ _ => False) := ⟨_, C, rfl, T, upd_same, rfl, rfl⟩
  refine wpAny_call (PySem.HandSPX.call_own F.excBase_ValueError (fun Y => PySem.HandSPX.refsVE_contains Y bm hbm) (I.kIn _ _ hC) (PySem.W.looks_findIn I.kIn iC) (fun self => PySem.W.bind_fn I.kIn self tI) (Nat.zero_le _)
    (codeAny_mono (F1.run _ X.stack _ _ ⟨[Value.ref (hp.objs.size + 1)], []⟩ [Value.ref (hp.objs.size + 1)] _ _ (fun _ _ _ => False) (hr.make C [] []) (I2.env0.make C [] []) (hb _ [Value.ref (hp.objs.size + 1)] I2.kIn rfl) r2 hq) fun r s' hq' => ?_))
  cases r with
  | error er => exact hx pins σ _ _ er s' I2 hq'
  | ok fl =>
    cases fl with
    | ret u =>
      obtain ⟨v, H2, os2, bare2, un2, hok2, rv, ev, rfl⟩ := hq'
      subst ev
      obtain ⟨h2, g2, d2, t2, os'⟩ := s'
      have e : del (upd H (hp.objs.size + 1) (exo (hp.objs.size + 1) C none)) (hp.objs.size + 1) = H := by
        funext b
        by_cases hb2 : b = hp.objs.size + 1
        · rw [hb2, del_same, hn]
        · rw [del_ne hb2, upd_ne hb2]
      exact ⟨rv, mk_bare (raises_own T.exC T.tyC) I hsz kk un2 hok2 os2 bare2 upd_same (by rw [e]; exact h)⟩
    | next => exact False.elim hq'
    | brk => exact False.elim hq'
    | cont => exact False.elim hq'
end
end Rl

set_option Elab.async false
set_option linter.all false
set_option maxRecDepth 100000
set_option maxHeartbeats 4000000
/-! Lay XC: raise. -/
namespace Rl
open PySem L2
section
variable {K : PySem.W.Frag} {N : Nm} {σ : L2.St} {δ : Env} {Hb H : Hp}
theorem new_dat (g : Good K N σ δ Hb H) {p : Addr} (h : H p = none) (o : HO) : Good K N σ δ (upd Hb p o) (upd H p o) ∧ Stp σ δ Hb H σ δ (upd Hb p o) (upd H p o) := by
  have hb : Hb p = none := by
    cases e : Hb p with
    | none => rfl
    | some u => rw [g.ex _ _ e] at h; cases h
  have no : ¬ Own σ δ p := fun ⟨i, d, a, b⟩ => by
    obtain ⟨q, u, x, _, y, _⟩ := g.own i d a
    rw [b] at x
    cases x
    rw [h] at y
    cases y
  refine ⟨(g.laid h).froz upd_same hb no, ⟨Ex.new hb, fun a e n => ?_, fun a u e _ => Ex.new h a u e, fun a e => ?_, fun a e => .inl e⟩⟩
  · refine .inl ?_
    rw [upd_ne]
    · exact e
    · rintro rfl
      exact n h
  · obtain ⟨u, hu⟩ := Option.ne_none_iff_exists'.mp e
    exact ne_none (Ex.new h a u hu)
theorem let_go {H1 : Hp} {a dx C : Addr} {fs gs : List (Str × V)} {d1 d2 : Option Addr} {o : HO} (ha : H1 a = none) (hne : dx ≠ a) : upd (del (upd (upd (upd H1 a (exo a C d1)) dx (exd dx fs)) a (exo a C d2)) a) dx o = upd H1 dx o := by
  funext b
  by_cases hb : b = dx
  · subst hb
    rw [upd_same, upd_same]
  · rw [upd_ne hb, upd_ne hb]
    by_cases hba : b = a
    · subst hba
      rw [del_same, ha]
    · rw [del_ne hba, upd_ne hba, upd_ne hb, upd_ne hba]
theorem let_go2 {H1 : Hp} {a dx C : Addr} {fs gs : List (Str × V)} {d1 d2 : Option Addr} {o : HO} (ha : H1 a = none) (hne : dx ≠ a) : upd (del (upd (upd (upd (upd H1 a (exo a C d1)) dx (exd dx fs)) a (exo a C d2)) dx (exd dx gs)) a) dx o = upd H1 dx o := by
  funext b
  by_cases hb : b = dx
  · subst hb
    rw [upd_same, upd_same]
  · rw [upd_ne hb, upd_ne hb]
    by_cases hba : b = a
    · subst hba
      rw [del_same, ha]
    · rw [del_ne hba, upd_ne hb, upd_ne hba, upd_ne hb, upd_ne hba]
end
section
variable {X : Cx} {k : Nat} {Ns : List Str} {sc : Scope} {N : Nm} {cf : Cfg} {pos : Pos} {keep : Nat → Bool}
theorem passF : Passes (L2.CX X.prog X.w) X (fun _ _ _ => False) := passL
theorem sj_rai0 (o : XOk X k Ns sc N cf) {c : Str} {p p2 : Pos} (E : ErrF X.prog X.w X.K X.mg X.base k N c []) (hg : glB sc c = true) (hdb : (c == ("__debug__" : Str)) = false) :
    SJ N X keep (.Raise (some (.Call (.Name c p) [] [] p2)) none pos) (raiM c [] (M.ret [])) := by
  obtain ⟨C, fI, fd, hc, ea, F1, hbd⟩ := E
  intro δ res h W σ Hb H Ee tk g post
  have hp := ps_raise (pos := pos) o.calm tk (pmk_bare (p := p) (pos := p2) ea.own ea.ini ea.fty F1 o.room hbd passF (o.gl hg) ea.mgC hdb)
  refine cS_of hp ?_
  have h : some (Res.ex c [] δ) = some res := h
  cases h
  exact post (.ref C) none σ Hb H Stp.refl g (fun _ _ => rfl) ⟨C, hc, rfl, .inl ⟨rfl, rfl⟩⟩
theorem sj_rai1 (o : XOk X k Ns sc N cf) {c f1 : Str} {e1 : Expr} {p p2 : Pos} {ms : M (List R)} (E : ErrF X.prog X.w X.K X.mg X.base k N c [f1]) (hg : glB sc c = true) (hdb : (c == ("__debug__" : Str)) = false) (hs : noStar e1 = true)
    (hm : AJ N X [e1] ms) : SJ N X keep (.Raise (some (.Call (.Name c p) [e1] [] p2)) none pos) (raiM c [f1] ms) := by
  obtain ⟨C, fI, fd, hc, ea, F1, hbd⟩ := E
  intro δ res h W σ Hb H Ee tk g post
  have hp := ps_raise (pos := pos) o.calm tk (pmk_oex (p := p) (pos := p2) (dvs := []) (ta := cA X [e1]) ea.own ea.ini ea.fty F1 o.room hbd .nil passF (o.gl hg) ea.mgC (pa_c [e1]) hdb (star_ok hs) rfl)
  refine cS_of hp ?_
  have h : M.bnd ms (fun rs => M.bnd (gives rs) fun ds δ => match excF [f1] ds with | some fs => some (.ex c fs δ) | none => none) δ = some res := h
  rcases M.bnd_ok h with ⟨rs, δ1, h1, h2⟩ | ⟨c', fs', δ1, h1, rfl⟩
  · refine hm δ _ h1 W σ Hb H _ tk g fun xs Hb1 H1 s1 g1 r1 => ?_
    rcases M.bnd_ok h2 with ⟨ds, δ2, h3, h4⟩ | ⟨c', fs', δ2, h3, rfl⟩
    · obtain ⟨ds', δ2', Hb2, q1, s2, g2, r2, _⟩ := g1.gives s1 r1 h3
      cases q1
      have hlen := r2.length
      unfold excF at h4
      by_cases hd : ds.length = [f1].length
      · rw [if_pos hd] at h4
        cases h4
        cases r2 with
        | nil => cases hd
        | @cons v d vs ds2 a b =>
          cases b with
          | cons => simp at hd
          | nil =>
            refine ⟨by show 1 ≤ 1000; decide, fun a0 h0 => ?_⟩
            refine ⟨a0, C, v, rfl, ea.own, ea.nof f1 (by simp), upd_same, fun dx hdx hne => ?_⟩
            have hdx' : H1 dx = none := by
              have : upd H1 a0 (exo a0 C none) dx = H1 dx := upd_ne hne
              rw [← this]; exact hdx
            refine ⟨rfl, dx, [(f1, v)], upd_same, by rw [upd_ne hne, upd_same], hdx', ?_⟩
            rw [let_go (gs := []) h0 hne]
            obtain ⟨g3, s3⟩ := new_dat g2 hdx' (.xd [(f1, v)])
            exact post (.ref C) (some dx) σ _ _ (s2.trans s3) g3 (fun _ _ => rfl) ⟨C, hc, rfl, .inr ⟨dx, _, rfl, upd_same, .cons (a.mono s3.hb) .nil⟩⟩
      · rw [if_neg hd] at h4
        cases h4
    · obtain ⟨_, _, _, q1, _⟩ := g1.gives s1 r1 h3
      cases q1
  · exact hm δ _ h1 W σ Hb H _ tk g fun cv dd Hb1 H1 s1 g1 r1 => post cv dd σ Hb1 H1 s1 g1 (fun _ _ => rfl) r1
theorem sj_rai2 (o : XOk X k Ns sc N cf) {c f1 f2 : Str} {e1 e2 : Expr} {p p2 : Pos} {ms : M (List R)} (E : ErrF X.prog X.w X.K X.mg X.base k N c [f1, f2]) (hg : glB sc c = true) (hdb : (c == ("__debug__" : Str)) = false) (hs : noStar e1 = true) (hs2 : noStar e2 = true)
    (hm : AJ N X [e1, e2] ms) : SJ N X keep (.Raise (some (.Call (.Name c p) [e1, e2] [] p2)) none pos) (raiM c [f1, f2] ms) := by
  obtain ⟨C, fI, fd, hc, ea, F1, hbd⟩ := E
  intro δ res h W σ Hb H Ee tk g post
  have hpl : (backTo p2 (starEach [e2] X.env)).any (·.1) = false := star_plain (by simp [hs2])
  have hp := ps_raise (pos := pos) o.calm tk (pmk_oex (p := p) (pos := p2) (dvs := []) (ta := cA X [e1, e2]) ea.own ea.ini ea.fty F1 o.room hbd .nil passF (o.gl hg) ea.mgC (pa_c [e1, e2]) hdb (star_ok hs) hpl)
  refine cS_of hp ?_
  have h : M.bnd ms (fun rs => M.bnd (gives rs) fun ds δ => match excF [f1, f2] ds with | some fs => some (.ex c fs δ) | none => none) δ = some res := h
  rcases M.bnd_ok h with ⟨rs, δ1, h1, h2⟩ | ⟨c', fs', δ1, h1, rfl⟩
  · refine hm δ _ h1 W σ Hb H _ tk g fun xs Hb1 H1 s1 g1 r1 => ?_
    rcases M.bnd_ok h2 with ⟨ds, δ2, h3, h4⟩ | ⟨c', fs', δ2, h3, rfl⟩
    · obtain ⟨ds', δ2', Hb2, q1, s2, g2, r2, _⟩ := g1.gives s1 r1 h3
      cases q1
      unfold excF at h4
      by_cases hd : ds.length = [f1, f2].length
      · rw [if_pos hd] at h4
        cases h4
        cases r2 with
        | nil => cases hd
        | @cons v d vs ds2 a b =>
          cases b with
          | nil => simp at hd
          | @cons v2 d2 vs2 ds3 a2 b2 =>
            cases b2 with
            | cons => simp at hd
            | nil =>
              refine ⟨by show 2 ≤ 1000; decide, fun a0 h0 => ?_⟩
              refine ⟨a0, C, v, v2, rfl, ea.own, ea.nof f1 (by simp), ea.nof f2 (by simp), upd_same, fun dx hdx hne => ?_⟩
              have hdx' : H1 dx = none := by
                have : upd H1 a0 (exo a0 C none) dx = H1 dx := upd_ne hne
                rw [← this]; exact hdx
              refine ⟨rfl, dx, [(f2, v2), (f1, v)], by rw [upd_ne (Ne.symm hne), upd_same], upd_same, hdx', ?_⟩
              rw [let_go2 h0 hne]
              obtain ⟨g3, s3⟩ := new_dat g2 hdx' (.xd [(f2, v2), (f1, v)])
              exact post (.ref C) (some dx) σ _ _ (s2.trans s3) g3 (fun _ _ => rfl) ⟨C, hc, rfl, .inr ⟨dx, _, rfl, upd_same, .cons (a2.mono s3.hb) (.cons (a.mono s3.hb) .nil)⟩⟩
      · rw [if_neg hd] at h4
        cases h4
    · obtain ⟨_, _, _, q1, _⟩ := g1.gives s1 r1 h3
      cases q1
  · exact hm δ _ h1 W σ Hb H _ tk g fun cv dd Hb1 H1 s1 g1 r1 => post cv dd σ Hb1 H1 s1 g1 (fun _ _ => rfl) r1
end
end Rl

set_option Elab.async false
set_option linter.all false
set_option maxRecDepth 100000
set_option maxHeartbeats 4000000
/-! Lay XD: except clauses, with names and without. -/
namespace Rl
open PySem L2 PySem.Spec PyProof.Rows
section
variable {X : Cx} {pins : List (Addr × Obj)} {σ : L2.St} {H : Hp} {a : Addr} {cls : Value} {d : Option Addr} {B : Heap} {sI s : Shared}
/-- a was caught, at the state s; sI: the state without it -/
structure Held (X : Cx) (pins : List (Addr × Obj)) (σ : L2.St) (H : Hp) (a : Addr) (cls : Value) (d : Option Addr) (B : Heap) (sI s : Shared) : Prop where
  inv : Inv X pins σ H sI
  nb : ∀ b o, sI.heap.get? b = some o → b ∉ frs X.stack → B.get? b = some o
  up : sI.heap.UpToSlots s.heap
  fl : HandSPX.FlyingZ B (X.env :: X.outer) a (Zc cls d) s.heap
  na : H a = none
  os : s.os = sI.os
  ag : AllBare s.gens
theorem Held.now (h : Held X pins σ H a cls d B sI s) : Inv X pins σ H s := h.inv.landed h.nb h.fl.1 h.up h.os h.ag
theorem Held.off (h : Held X pins σ H a cls d B sI s) : a ∉ frs (X.env :: X.outer) := fun hm => by
  obtain ⟨oe, vs, he, _, hd⟩ := h.fl.there
  obtain ⟨_, o2, e2, n2⟩ := h.fl.2.2.1.mem hm
  exact n2 vs (by rw [he] at e2; cases e2; exact hd)
theorem Held.suite (h : Held X pins σ H a cls d B sI s) (hf : X.env.frame = some X.env.locals) {oe : Obj} {vs : Array Value} (he : s.heap.get? a = some oe) (hd : oe.data = .fields vs) : Inv (X.suite a ((a, oe) :: (X.pn ++ pins))) [] σ H s := by
  refine h.now.suite he hd h.na (fun z => h.off ?_) fun z => h.off ?_
  · exact List.mem_filterMap.mpr ⟨X.env, .head _, by rw [hf, z]⟩
  · obtain ⟨e, h1, h2⟩ := List.mem_filterMap.mp z
    exact List.mem_filterMap.mpr ⟨e, .tail _ h1, h2⟩
/-- noted once more -/
theorem Held.again {M : Model} {A : Around} {E : Value → Shared → Prop} {Q : Unit → Shared → Prop} (h : Held X pins σ H a cls d B sI s) (k : ∀ s2, Held X pins σ H a cls d B sI s2 → Q () s2) : wpAny M A (setFlight (.ref a) none) Q E s :=
  HandSPX.lands_againZ h.fl fun _ f u => k _ ⟨h.inv, h.nb, h.up.trans u, f, h.na, h.os, h.ag⟩
/-- a clause's class is asked -/
theorem Held.ask (h : Held X pins σ H a cls d B sI s) (hf : X.env.frame = some X.env.locals) {x : Str} {c : Value} (hc : Names X x c) {b : Bool} (hb : PySem.W.exmOne X.K cls c = some b) {R : Except Value Flow → Shared → Prop} {np pos : Pos}
    (k : R (.ok (if b then .brk else .next)) s) : codeAny (model X.prog X.w) (X.A.mark (some (.ref a))) (.handlers (.ref a) [.ExceptHandler (some (.Name x np)) none [] pos] X.env) R s := by
  obtain ⟨oe, vs, he, hz, hd⟩ := h.fl.there
  have S := h.suite hf he hd
  have hm := (PySem.W.exm_one (M := model X.prog X.w) h.now.kIn (fun A Q E s k q => wpAny_typeOf_ref (k _ _ he) (by rw [hz.1]; exact q)) hb)
  refine codeAny_handlers_test ?_
  obtain ⟨h1, h2, h3 | ⟨h3, h4, h5⟩⟩ := hc
  · exact ld_glob (X := X.suite a ((a, oe) :: (X.pn ++ pins))) S h1 h3 (hm.here k) h2
  · exact ld_blt (X := X.suite a ((a, oe) :: (X.pn ++ pins))) S h1 h3 h4 (hm.here k) h5 h2
/-- no clause took it -/
theorem Held.goes (h : Held X pins σ H a cls d B sI s) (hs : X.stack = X.env :: X.outer) (hf : X.env.frame = some X.env.locals) {W : WX} (tk : Takes X W) (w : W cls d σ H) {D : Ends} : wpAny (model X.prog X.w) X.A (handleBy (.ref a) X.env []) (SP X pins D) X.xe s := by
  obtain ⟨_, _, _, oe, vs, T, _, _, he, _, hd, h1, _⟩ := id h.fl
  refine wpAny_handleBy_nil (wpAny_bind (wpAny_field he hd h1 ?_))
  rw [if_neg (by simp : ¬ ((Value.ref T == Value.none) = true)), hf]
  have q : wpAny (model X.prog X.w) X.A (setFlight (.ref a) (some X.env.locals)) (fun _ s4 => wpAny (model X.prog X.w) X.A (throw (.ref a) : Sem Flow) (SP X pins D) X.xe s4) X.xe s :=
    HandSPX.setFlight_upZ h.fl fun h4 hh u4 => wpAny_throw (tk _ _ ⟨a, B, sI, pins, σ, H, cls, d, rfl, h.inv, h.nb, h.up.trans u4, by rw [hs]; exact .inr (.inr hh), h.na, h.os, h.ag, w⟩)
  first
    | exact wpAny_bind (wpAny_pure (wpAny_bind q))
    | exact wpAny_bind q
end
/-- the ends behind a suite whose name goes -/
def less (D : Ends) (i : Nat) : Ends := { nx := fun σ H => D.nx (σ.set i none) H, rt := D.rt, bk := fun σ H => D.bk (σ.set i none) H, ct := fun σ H => D.ct (σ.set i none) H }
section
variable {X : Cx} {pins : List (Addr × Obj)} {a : Addr} {q : Addr × Obj} {D : Ends} {f : Flow} {s : Shared}
theorem sp_back (ok : X.Ok) (h : SP (X.suite a (q :: (X.pn ++ pins))) [] D f s) : SP X pins D f s := by
  cases f <;> (first | (obtain ⟨v, σ, H, I, r, z⟩ := h; exact ⟨v, σ, H, I.unsuite ok, r, z⟩) | (obtain ⟨σ, H, I, z⟩ := h; exact ⟨σ, H, I.unsuite ok, z⟩))
theorem sp_backN (ok : X.Ok) {i : Nat} {n : Str} {pos : Pos} (hN : X.N.Nodup) (hi : X.N[i]? = some n) (hl : X.env.kindOf n = some .local) (h : SP (X.suite a (q :: (X.pn ++ pins))) [] (less D i) f s) :
    wpAny (model X.prog X.w) X.A (do bindName X.env n .none; unbindBehindTheSuite X.env n pos) (fun _ t => SP X pins D f t) X.xe s := by
  cases f <;> (first | (obtain ⟨v, σ, H, I, r, z⟩ := h; exact gone_ok (I.unsuite ok) hN hi hl fun t J => ⟨v, _, H, J, r, z⟩) | (obtain ⟨σ, H, I, z⟩ := h; exact gone_ok (I.unsuite ok) hN hi hl fun t J => ⟨_, H, J, z⟩))
end
/-- an except clause -/
structure XCl where
  x : Str
  c : Value
  nm : Option (Str × Nat)
  b0 : Stmt
  bs : List Stmt
  ts : Addr → Value → Option Addr → TS
  np : Pos
  pos : Pos
def XCl.hd (c : XCl) : ExceptHandler := .ExceptHandler (some (.Name c.x c.np)) (c.nm.map (·.1)) (c.b0 :: c.bs) c.pos
def XCl.wish (c : XCl) (a : Addr) (cls : Value) (d : Option Addr) : TS := fun D σ H => match c.nm with
  | none => c.ts a cls d D σ H
  | some (_, i) => c.ts a cls d (less D i) (σ.set i (some (.ref a))) H
def wCl (K : PySem.W.Frag) (W : WX) (D : Ends) : List XCl → WX
  | [] => W
  | c :: r => fun cls d σ H => ∃ b, PySem.W.exmOne K cls c.c = some b ∧ (b = true → ∀ a, H a = none → c.wish a cls d D σ H) ∧ (b = false → wCl K W D r cls d σ H)
structure XClOk (X : Cx) (c : XCl) : Prop where
  nms : Names X c.x c.c
  slot : ∀ n i, c.nm = some (n, i) → X.N[i]? = some n ∧ X.env.kindOf n = some .local
  run : ∀ (a : Addr) (oe : Obj) (cls : Value) (d : Option Addr) (pn : List (Addr × Obj)), Zc cls d oe → (∃ vs, oe.data = .fields vs) → PSs (X.suite a ((a, oe) :: pn)) (c.b0 :: c.bs) (c.ts a cls d)
section
variable {X : Cx} {pins : List (Addr × Obj)} {σ : L2.St} {H : Hp} {a : Addr} {cls : Value} {d : Option Addr} {B : Heap} {sI : Shared} {W : WX} {D : Ends}
theorem Held.by_ (hs : X.stack = X.env :: X.outer) (hf : X.env.frame = some X.env.locals) (hN : X.N.Nodup) (tk : Takes X W) : ∀ {l : List XCl} {s : Shared}, (∀ c ∈ l, XClOk X c) → Held X pins σ H a cls d B sI s → wCl X.K W D l cls d σ H →
    wpAny (model X.prog X.w) X.A (handleBy (.ref a) X.env (l.map XCl.hd)) (SP X pins D) X.xe s
  | [], s, _, h, w => h.goes hs hf tk w
  | c :: r, s, hl, h, ⟨b, hb, hy, hn⟩ => by
    have C := hl c (.head _)
    have ok := h.inv.ok
    refine wpAny_handleBy_cons (h.ask hf C.nms hb ?_) (by intro z; cases z)
    cases b with
    | false => exact Held.by_ hs hf hN tk (fun c' m => hl c' (.tail _ m)) h (hn rfl)
    | true =>
      have w := hy rfl a h.na
      have sl := C.slot
      have run := C.run
      unfold XCl.wish at w
      obtain ⟨x, cc, nm, b0, bs, ts, np, pos⟩ := c
      cases nm with
      | none =>
        refine codeAny_handlers_suite (h.again fun s2 h2 => ?_)
        obtain ⟨oe, vs, he, hz, hd⟩ := h2.fl.there
        exact wpAny_mono ((run a oe cls d (X.pn ++ pins) hz ⟨_, hd⟩).run [] _ _ H _ (h2.suite hf he hd) w) (fun f s6 z => sp_back ok z) fun _ _ z => False.elim z
      | some ni =>
        obtain ⟨n, i⟩ := ni
        obtain ⟨hi, hln⟩ := sl n i rfl
        refine codeAny_handlers_suite_as (h.again fun s2 h2 => ?_)
        obtain ⟨oe, vs, he, hz, hd⟩ := h2.fl.there
        refine store_ok (X := X.suite a ((a, oe) :: (X.pn ++ pins))) (v := .ref a) (h2.suite hf he hd) hN hi (.inl hln) rfl (fun s5 S5 => ?_) (.inr hln)
        exact wpAny_mono ((run a oe cls d (X.pn ++ pins) hz ⟨_, hd⟩).run [] s5 _ H _ S5 w) (fun f s6 z => sp_backN ok hN hi hln z) fun _ _ z => False.elim z
/-- try, the clauses l -/
theorem ps_clauses {body : List Stmt} {c0 : XCl} {l : List XCl} {pos : Pos} {tb : WX → TS} (hs : X.stack = X.env :: X.outer) (hf : X.env.frame = some X.env.locals) (hN : X.N.Nodup) (tk : Takes X W) (hl : ∀ c ∈ c0 :: l, XClOk X c)
    (hb : ∀ (W : WX) (pn : List (Addr × Obj)) (xe : Value → Shared → Prop), Takes (X.tr pn xe) W → PassesOwn (model X.prog X.w) X.A X.env xe → PSs (X.tr pn xe) body (tb W)) :
    PS X (.Try body (c0.hd :: l.map XCl.hd) [] [] pos) (fun D σ H => tb (wCl X.K W D (c0 :: l)) D σ H) := by
  refine ⟨fun pins s σ H D I h => wpAny_Try_except ?_⟩
  refine wpAny_mono ((hb _ (X.pn ++ pins) (fun e s1 => wpAny (model X.prog X.w) X.A (noteFrame e X.env) (fun _ s2 => wpAny (model X.prog X.w) X.A (setFlight e none) (fun _ s3 =>
    wpAny (model X.prog X.w) X.A (handleBy e X.env (c0.hd :: l.map XCl.hd)) (SP X pins D) X.xe s3) X.xe s2) X.xe s1) ?_ PassesOwn.looking).run [] s σ H D (I.toTry _) h) (fun f s1 z => ?_) fun _ _ z => z
  · rintro u s2 ⟨a, B, sI, pins2, σ2, H2, cls, d, rfl, J, nb, up, sky, na, os, ag, w⟩
    have sky : Sky B (X.env :: X.outer) a (Zc cls d) X.env.locals s2.heap := hs ▸ sky
    exact Sky.land Zc.steady (by rw [I.ok.frames, hs]) hf sky fun h3 fl u3 => Held.by_ (l := c0 :: l) hs hf hN tk hl ⟨J.ofTry I.ok, nb, up.trans u3, fl, na, os, ag⟩ w
  · cases f with
    | next =>
      obtain ⟨σ2, H2, J, z⟩ := z
      exact wpAny_execs_nil ⟨σ2, H2, J.ofTry I.ok, z⟩
    | ret u =>
      obtain ⟨v, σ2, H2, J, r, z⟩ := z
      exact ⟨v, σ2, H2, J.ofTry I.ok, r, z⟩
    | brk =>
      obtain ⟨σ2, H2, J, z⟩ := z
      exact ⟨σ2, H2, J.ofTry I.ok, z⟩
    | cont =>
      obtain ⟨σ2, H2, J, z⟩ := z
      exact ⟨σ2, H2, J.ofTry I.ok, z⟩
end
end Rl

set_option Elab.async false
set_option linter.all false
set_option maxRecDepth 100000
set_option maxHeartbeats 4000000
/-! Lay Y: the check of a text against a term, for expressions. -/
namespace Rl
open PySem L2
def nd (x : Str) : Bool := !(x == ("__debug__" : Str)) && !(x == ("__classdict__" : Str))
theorem nd1 {x : Str} (h : nd x = true) : (x == ("__debug__" : Str)) = false := by
  have := (Bool.and_eq_true_iff.mp h).1
  simpa using this
theorem nd2 {x : Str} (h : nd x = true) : (x == ("__classdict__" : Str)) = false := by
  have := (Bool.and_eq_true_iff.mp h).2
  simpa using this
def isOp : BO → Operator → Bool
  | .add, .Add => true | .sub, .Sub => true | .mul, .Mult => true | .fdiv, .FloorDiv => true | .mod, .Mod => true | .pow, .Pow => true | _, _ => false
theorem isOp_eq {o : BO} {p : Operator} (h : isOp o p = true) : p = opB o := by cases o <;> cases p <;> first | rfl | cases h
def isCmp : CO → CmpOp → Bool
  | .eq, .Eq => true | .ne, .NotEq => true | .lt, .Lt => true | .le, .LtE => true | .gt, .Gt => true | .ge, .GtE => true | .is, .Is => true | .isn, .IsNot => true | .inn, .In => true | .nin, .NotIn => true | _, _ => false
theorem isCmp_eq {o : CO} {p : CmpOp} (h : isCmp o p = true) : p = opC o := by cases o <;> cases p <;> first | rfl | cases h
def okC : Sc → Const → Bool
  | .non, .none => true | .bl b, .bool c => decide (b = c) | .int i, .int j => decide (i = j) | .str x, .str y => decide (x = y) | _, _ => false
def all2 {α β : Type} (f : α → β → Bool) : List α → List β → Bool
  | [], [] => true
  | a :: l, b :: r => f a b && all2 f l r
  | _, _ => false
def okAnd (f : ME → Expr → Bool) : ME → List Expr → Bool
  | m, [e] => f m e
  | .and a b, e :: e2 :: r => f a e && okAnd f b (e2 :: r)
  | _, _ => false
def okOr (f : ME → Expr → Bool) : ME → List Expr → Bool
  | m, [e] => f m e
  | .or a b, e :: e2 :: r => f a e && okOr f b (e2 :: r)
  | _, _ => false
def okI (f : ME → Expr → Bool) (sc : Scope) : MG → MI → Expr → Expr → Bool
  | _, .seq e, _, it => f e it
  | _, .rg1 a, _, .Call (.Name r _) [x] [] _ => decide (r = ("range" : Str)) && glB sc r && noStar x && f a x
  | _, .rg2 a b, _, .Call (.Name r _) [x, y] [] _ => decide (r = ("range" : Str)) && glB sc r && noStar x && noStar y && f a x && f b y
  | _, .enu a, .Tuple _ _ _, .Call (.Name r _) [x] [] _ => decide (r = ("enumerate" : Str)) && glB sc r && noStar x && f a x
  | _, .zip a b, .Tuple _ _ _, .Call (.Name r _) [x, y] [] _ => decide (r = ("zip" : Str)) && glB sc r && noStar x && noStar y && f a x && f b y
  | _, _, _, _ => false
/-- tests by value -/
def plT : Expr → Bool
  | .Name _ _ => true | .Call _ _ _ _ => true | .Subscript _ _ _ => true | .Attribute _ _ _ => true | _ => false
theorem plT_ok {e : Expr} {env : PySem.Env} (h : plT e = true) : ∀ whole, isTrue e env whole = (do let v ← whole; standAt e.pos; holding [v] (truthy v)) := by
  cases e <;> first | (cases h; done) | (intro _; rfl)
/-- a slice's part -/
def okPart (f : ME → Expr → Bool) : List ME → Option Expr → Bool
  | [], none => true
  | [m], some e => f m e
  | _, _ => false
def keysOk : List (Option Expr) → List Expr → Option (List (Expr × Expr))
  | [], [] => some []
  | some k :: ks, v :: vs => (keysOk ks vs).map ((k, v) :: ·)
  | _, _ => none
def okTy (cs : List Str) : Ty → Str → Bool
  | .cls c, x => decide (x = c) && decide (c ∈ cs)
  | t, x => decide (x = tyNm t)
def scFn (scope : Scope) : Bool := match scope.kind with | .function => true | _ => false
section
variable (Ns cs : List Str)
mutual
def okE : Nat → Scope → ME → Expr → Bool
  | 0, _, _, _ => false
  | n + 1, sc, m, e => match m, e with
    | .var i, .Name x _ => decide (Ns[i]? = some x) && visB sc x && nd x
    | .cst c, .Constant v _ _ => okC c v
    | .glb x, .Name y _ => decide (x = y) && glB sc x && nd x
    | .fnv x, .Name y _ => decide (x = y) && glB sc x && nd x
    | .bop o a b, .BinOp l op r _ => isOp o op && okE n sc a l && okE n sc b r
    | .neg a, .UnaryOp .USub x _ => okE n sc a x
    | .not a, .UnaryOp .Not x _ => okE n sc a x
    | .and a b, .BoolOp .And es _ => okAnd (okE n sc) (.and a b) es
    | .or a b, .BoolOp .Or es _ => okOr (okE n sc) (.or a b) es
    | .cmp o a b, .Compare l [op] [r] _ => isCmp o op && noSet r && okE n sc a l && okE n sc b r
    | .chn o p a b c, .Compare l [op, op2] [r, t] _ => isCmp o op && isCmp p op2 && noIn o && noIn p && noSet t && okE n sc a l && okE n sc b r && okE n sc c t
    | .ife c a b, .IfExp x y z _ => okT n sc c x && okE n sc a y && okE n sc b z
    | .tup l, .Tuple es _ _ => es.all noStar && all2 (okE n sc) l es
    | .lst l, .List es _ => es.all noStar && all2 (okE n sc) l es
    | .dic l, .Dict ks vs _ => match keysOk ks vs with
      | some ps => decide (ps.length ≤ 15) && all2 (fun (p : ME × ME) (q : Expr × Expr) => okE n sc p.1 q.1 && okE n sc p.2 q.2) l ps
      | none => false
    | .dnt, .Dict [] [] _ => true
    | .slc a lo hi, .Subscript x (.Slice l h none _) _ => okE n sc a x && okPart (okE n sc) lo l && okPart (okE n sc) hi h
    | .rev a, .Subscript x (.Slice none none (some (.UnaryOp .USub (.Constant (.int i) _ _) _)) _) _ => decide (i = 1) && okE n sc a x
    | .idx a i, .Subscript x j _ => noSlice j && okE n sc a x && okE n sc i j
    | .att a f, .Attribute x g _ => decide (f = g) && plainBase x && okE n sc a x
    | .cal f l, .Call (.Name g _) es [] _ => decide (f = g) && glB sc f && nd f && es.all noStar && all2 (okE n sc) l es
    | .clv i l, .Call (.Name x _) es [] _ => decide (Ns[i]? = some x) && visB sc x && nd x && es.all noStar && !es.isEmpty && all2 (okE n sc) l es
    | .new c l, .Call (.Name g _) es [] _ => decide (c = g) && glB sc c && nd c && es.all noStar && all2 (okE n sc) l es
    | .mth c m o l, .Call (.Attribute x g ap) es [] pos => decide (m = g) && plainBase x && es.all noStar && decide (es.length < 30) && (ap.endLine == pos.line) && okE n sc o x && all2 (okE n sc) l es
    | .blt b l, .Call (.Name g _) es [] _ => decide (g = blN b) && glB sc g && es.all noStar && !es.isEmpty && all2 (okE n sc) l es
    | .isi a t, .Call (.Name g _) [x, .Name y _] [] _ => decide (g = ("isinstance" : Str)) && glB sc g && glB sc y && nd y && noStar x && okTy cs t y && okE n sc a x
    | .bmt b o l, .Call (.Attribute x g ap) es [] pos => decide (g = bmN b) && decide (b ≠ .strip) && plainBase x && es.all noStar && decide (es.length < 30) && !es.isEmpty && (ap.endLine == pos.line) && okE n sc o x && all2 (okE n sc) l es
    | .pop i, .Call (.Attribute (.Name x _) g ap) [] [] pos => decide (g = ("pop" : Str)) && decide (Ns[i]? = some x) && visB sc x && nd x && (ap.endLine == pos.line)
    | .lc el tg it cd own, .ListComp elt gens scope _ => match gens with
      | [⟨t, iter, ifs, 0⟩] => scFn scope && blkC Ns sc scope own && tgOk Ns (rawB scope) tg t && decide (∀ i ∈ gSl tg, i ∈ own.map (·.2)) && noSet iter && okI (okE n sc) sc tg it t iter &&
          all2 (okT n (relS scope sc)) cd ifs && decide (cd.length ≤ 1) && okE n (relS scope sc) el elt
      | _ => false
    | .dc kk vv tg it cd own, .DictComp kx vx gens scope _ => match gens with
      | [⟨t, iter, ifs, 0⟩] => scFn scope && blkC Ns sc scope own && tgOk Ns (rawB scope) tg t && decide (∀ i ∈ gSl tg, i ∈ own.map (·.2)) && noSet iter && okI (okE n sc) sc tg it t iter &&
          all2 (okT n (relS scope sc)) cd ifs && decide (cd.length ≤ 1) && okE n (relS scope sc) kk kx && okE n (relS scope sc) vv vx
      | _ => false
    | _, _ => false
def okT : Nat → Scope → ME → Expr → Bool
  | 0, _, _, _ => false
  | n + 1, sc, m, e => match m, e with
    | .not a, .UnaryOp .Not x _ => okT n sc a x
    | .and a b, .BoolOp .And es _ => okAnd (okT n sc) (.and a b) es
    | .or a b, .BoolOp .Or es _ => okOr (okT n sc) (.or a b) es
    | .cmp o a b, .Compare l [op] [r] _ => isCmp o op && noSet r && okE n sc a l && okE n sc b r
    | .chn o p a b c, .Compare l [op, op2] [r, t] _ => isCmp o op && isCmp p op2 && noIn o && noIn p && noSet t && okE n sc a l && okE n sc b r && okE n sc c t
    | m, e => plT e && okE n sc m e
end
end
end Rl

set_option Elab.async false
set_option linter.all false
set_option maxRecDepth 100000
set_option maxHeartbeats 8000000
/-! Lay Z: the check is right, for expressions. -/
namespace Rl
open PySem L2
section
variable {k : Nat} {Ns cs : List Str} {N : Nm} {cf : Cfg}
theorem aj_all {X : Cx} {f : ME → Expr → Bool} (hf : ∀ m e, f m e = true → EJ N X e (evE cf m)) : ∀ {l : List ME} {es : List Expr}, es.all noStar = true → all2 f l es = true → AJ N X es (evL cf l)
  | [], [], _, _ => by unfold evL; exact aj_nil
  | [], _ :: _, _, h => by cases h
  | _ :: _, [], _, h => by cases h
  | m :: l, e :: es, hs, h => by
    rw [List.all_cons, Bool.and_eq_true] at hs
    have h := Bool.and_eq_true_iff.mp h
    unfold evL
    exact aj_cons hs.1 (hf m e h.1) (aj_all hf hs.2 h.2)
theorem kj_all {X : Cx} {f : ME → Expr → Bool} (hf : ∀ m e, f m e = true → EJ N X e (evE cf m)) : ∀ {l : List (ME × ME)} {ps : List (Expr × Expr)}, all2 (fun (p : ME × ME) (q : Expr × Expr) => f p.1 q.1 && f p.2 q.2) l ps = true → l.length = ps.length ∧ KJ N X ps (evKV cf l)
  | [], [], _ => ⟨rfl, by unfold evKV; exact kj_nil⟩
  | [], _ :: _, h => by cases h
  | _ :: _, [], h => by cases h
  | (a, b) :: l, (x, y) :: ps, h => by
    have h := Bool.and_eq_true_iff.mp h
    have h1 := Bool.and_eq_true_iff.mp h.1
    obtain ⟨q1, q2⟩ := kj_all hf h.2
    refine ⟨by simp [q1], ?_⟩
    unfold evKV
    exact kj_cons (hf _ _ h1.1) (hf _ _ h1.2) q2
theorem keysOk_eq : ∀ {ks : List (Option Expr)} {vs : List Expr} {ps : List (Expr × Expr)}, keysOk ks vs = some ps → ks = ps.map (fun p => some p.1) ∧ vs = ps.map (·.2)
  | [], [], ps, h => by cases (Option.some.inj h); exact ⟨rfl, rfl⟩
  | [], _ :: _, _, h => by cases h
  | none :: _, _, _, h => by cases h
  | some _ :: _, [], _, h => by cases h
  | some k :: ks, v :: vs, ps, h => by
    obtain ⟨q, hq, rfl⟩ := map_some (show (keysOk ks vs).map ((k, v) :: ·) = some ps from h)
    obtain ⟨a, b⟩ := keysOk_eq hq
    exact ⟨by rw [a]; rfl, by rw [b]; rfl⟩
theorem ij_of {X : Cx} {sc : Scope} (o : XOk X k Ns sc N cf) {f : ME → Expr → Bool} (hf : ∀ m e, f m e = true → EJ N X e (evE cf m)) {g : MG} {mi : MI} {tg it : Expr} (h : okI f sc g mi tg it = true) : IJ N X tg it (evI cf mi) := by
  unfold okI at h
  split at h
  · unfold evI; exact ij_seq (hf _ _ h)
  · simp only [Bool.and_eq_true, decide_eq_true_eq] at h
    obtain ⟨⟨⟨rfl, h1⟩, h2⟩, h3⟩ := h
    unfold evI; exact ij_rg1 o h1 h2 (hf _ _ h3)
  · simp only [Bool.and_eq_true, decide_eq_true_eq] at h
    obtain ⟨⟨⟨⟨⟨rfl, h1⟩, h2⟩, h2'⟩, h3⟩, h4⟩ := h
    unfold evI; exact ij_rg2 o h1 h2 h2' (hf _ _ h3) (hf _ _ h4)
  · simp only [Bool.and_eq_true, decide_eq_true_eq] at h
    obtain ⟨⟨⟨rfl, h1⟩, h2⟩, h3⟩ := h
    unfold evI; exact ij_enu o h1 h2 (hf _ _ h3)
  · simp only [Bool.and_eq_true, decide_eq_true_eq] at h
    obtain ⟨⟨⟨⟨⟨rfl, h1⟩, h2⟩, h2'⟩, h3⟩, h4⟩ := h
    unfold evI; exact ij_zip o h1 h2 h2' (aj_cons h2 (hf _ _ h3) (aj_cons h2' (hf _ _ h4) aj_nil))
  · cases h
theorem ej_okC {X : Cx} {c : Sc} {v : Const} {j : Nat} {pos : Pos} (h : okC c v = true) : EJ N X (.Constant v j pos) (M.ret (.dat (scD c))) := by
  unfold okC at h
  split at h
  · exact ej_ret pe_non fun _ => .non
  · have := of_decide_eq_true h; subst this; exact ej_ret pe_bl fun _ => .bl _
  · have := of_decide_eq_true h; subst this; exact ej_ret pe_int fun _ => .int _
  · have := of_decide_eq_true h; subst this; exact ej_ret pe_str fun _ => .str _
  · cases h
theorem bnd_assoc {α β γ : Type} (a : M α) (b : α → M β) (c : β → M γ) : M.bnd (M.bnd a b) c = M.bnd a (fun x => M.bnd (b x) c) := funext fun δ => by
  unfold M.bnd
  cases a δ with
  | none => rfl
  | some r => cases r <;> rfl
theorem bnd_congr {α β : Type} {a : M α} {f g : α → M β} (h : ∀ x, f x = g x) : M.bnd a f = M.bnd a g := by rw [funext h]
theorem tst_tsv {B : M R} : tst (tsv B) = tst B := by
  unfold tst tsv
  rw [bnd_assoc]
  refine bnd_congr fun r => funext fun δ => ?_
  unfold M.bnd look
  cases vw δ r with
  | none => rfl
  | some d => cases d <;> rfl
theorem tst_bl {b : Bool} : tst (M.ret (.dat (.bl b))) = M.ret b := rfl
theorem tst_and {A B : M R} : tst (M.bnd (tst A) fun c => if c then tsv B else M.ret (.dat (.bl false))) = M.bnd (tst A) (fun c => if c then tst B else M.ret false) := by
  show M.bnd (M.bnd (tst A) _) _ = _
  rw [bnd_assoc]
  refine bnd_congr fun c => ?_
  cases c with
  | false => rfl
  | true => exact tst_tsv
theorem tst_or {A B : M R} : tst (M.bnd (tst A) fun c => if c then M.ret (.dat (.bl true)) else tsv B) = M.bnd (tst A) (fun c => if c then M.ret true else tst B) := by
  show M.bnd (M.bnd (tst A) _) _ = _
  rw [bnd_assoc]
  refine bnd_congr fun c => ?_
  cases c with
  | true => rfl
  | false => exact tst_tsv
theorem and_all {X : Cx} {pos : Pos} {f : ME → Expr → Bool} (hf : ∀ m e, f m e = true → EJ N X e (evE cf m)) : ∀ {es : List Expr} {m : ME}, okAnd f m es = true → EJ N X (.BoolOp .And es pos) (evE cf m)
  | [], m, h => by cases m <;> cases h
  | [e], m, h => ej_bo1 (hf m e (by unfold okAnd at h; exact h))
  | e :: e2 :: r, m, h => by
    cases m <;> first | (unfold okAnd at h; cases h; done) | skip
    rename_i a b
    unfold okAnd at h
    have h := Bool.and_eq_true_iff.mp h
    unfold evE
    exact ej_and (hf _ _ h.1) (and_all hf h.2)
theorem or_all {X : Cx} {pos : Pos} {f : ME → Expr → Bool} (hf : ∀ m e, f m e = true → EJ N X e (evE cf m)) : ∀ {es : List Expr} {m : ME}, okOr f m es = true → EJ N X (.BoolOp .Or es pos) (evE cf m)
  | [], m, h => by cases m <;> cases h
  | [e], m, h => ej_bo1 (hf m e (by unfold okOr at h; exact h))
  | e :: e2 :: r, m, h => by
    cases m <;> first | (unfold okOr at h; cases h; done) | skip
    rename_i a b
    unfold okOr at h
    have h := Bool.and_eq_true_iff.mp h
    unfold evE
    exact ej_or (hf _ _ h.1) (or_all hf h.2)
theorem WJ.congr {X : Cx} {e : Expr} {m m' : M Bool} (h : WJ N X e m) (he : ∀ δ, m' δ = m δ) : WJ N X e m' := fun δ res h1 => h δ res (by rw [← he]; exact h1)
theorem and_allT {X : Cx} {pos : Pos} {f : ME → Expr → Bool} (hf : ∀ m e, f m e = true → TJ N X e (tst (evE cf m))) : ∀ {es : List Expr} {m : ME}, okAnd f m es = true → WJ N X (.BoolOp .And es pos) (tst (evE cf m))
  | [], m, h => by cases m <;> cases h
  | [e], m, h => wj_one _ (hf m e (by unfold okAnd at h; exact h))
  | e :: e2 :: r, m, h => by
    cases m <;> first | (unfold okAnd at h; cases h; done) | skip
    rename_i a b
    unfold okAnd at h
    have h := Bool.and_eq_true_iff.mp h
    unfold evE
    exact (wj_and (hf _ _ h.1) (and_allT hf h.2)).congr fun δ => congrFun tst_and δ
theorem or_allT {X : Cx} {pos : Pos} {f : ME → Expr → Bool} (hf : ∀ m e, f m e = true → TJ N X e (tst (evE cf m))) : ∀ {es : List Expr} {m : ME}, okOr f m es = true → WJ N X (.BoolOp .Or es pos) (tst (evE cf m))
  | [], m, h => by cases m <;> cases h
  | [e], m, h => wj_one _ (hf m e (by unfold okOr at h; exact h))
  | e :: e2 :: r, m, h => by
    cases m <;> first | (unfold okOr at h; cases h; done) | skip
    rename_i a b
    unfold okOr at h
    have h := Bool.and_eq_true_iff.mp h
    unfold evE
    exact (wj_or (hf _ _ h.1) (or_allT hf h.2)).congr fun δ => congrFun tst_or δ
theorem oj_of {X : Cx} {f : ME → Expr → Bool} (hf : ∀ m e, f m e = true → EJ N X e (evE cf m)) {l : List ME} {e : Option Expr} (h : okPart f l e = true) : OJ N X e (M.bnd (evL cf l) fun l => looks l oneInt) := by
  unfold okPart at h
  split at h
  · exact oj_none
  · exact oj_some (hf _ _ h)
  · cases h
theorem slc_congr {ma : M R} {l h : M (List R)} : (M.bnd ma fun x => M.bnd l fun l => M.bnd (looks l oneInt) fun lo => M.bnd h fun h => M.bnd (looks h oneInt) fun hi => look x fun d => slcD d lo hi) =
    (M.bnd ma fun x => M.bnd (M.bnd l fun l => looks l oneInt) fun lo => M.bnd (M.bnd h fun h => looks h oneInt) fun hi => look x fun d => slcD d lo hi) := by
  refine bnd_congr fun x => ?_
  rw [bnd_assoc]
  refine bnd_congr fun l => bnd_congr fun lo => ?_
  rw [bnd_assoc]
theorem nempty {es : List Expr} (h : (!es.isEmpty) = true) : ∃ e r, es = e :: r := by
  cases es with
  | nil => cases h
  | cons e r => exact ⟨e, r, rfl⟩
theorem cd_of {X : Cx} {f : ME → Expr → Bool} (hf : ∀ m e, f m e = true → TJ N X e (tst (evE cf m))) {cd : List ME} {ifs : List Expr} (h : all2 f cd ifs = true) (hl : cd.length ≤ 1) : CdJ N X ifs (evC cf cd) := by
  cases cd with
  | nil =>
    cases ifs with
    | nil => unfold evC; exact cd_nil
    | cons => cases h
  | cons c r =>
    cases r with
    | nil =>
      cases ifs with
      | nil => cases h
      | cons e es =>
        cases es with
        | nil =>
          have h := Bool.and_eq_true_iff.mp h
          unfold evC; exact cd_one (hf c e h.1)
        | cons =>
          have h := Bool.and_eq_true_iff.mp h
          cases h.2
    | cons => simp at hl
theorem scFn_of {scope : Scope} (h : scFn scope = true) : scope.kind = .function := by
  unfold scFn at h
  split at h
  · assumption
  · cases h
theorem ok_sound (hcs : ∀ c ∈ cs, ∃ C, N.cls c = some C ∧ (cf.flds c).isSome = true) : ∀ n, (∀ sc m e X, okE Ns cs n sc m e = true → XOk X k Ns sc N cf → EJ N X e (evE cf m)) ∧ ∀ sc m e X, okT Ns cs n sc m e = true → XOk X k Ns sc N cf → TJ N X e (tst (evE cf m))
  | 0 => ⟨fun sc m e X h => (by unfold okE at h; cases h), fun sc m e X h => (by unfold okT at h; cases h)⟩
  | n + 1 => by
    obtain ⟨ihE, ihT⟩ := ok_sound hcs n
    have cmpJ : ∀ {sc : Scope} {X : Cx} {o : CO} {a b : ME} {l r : Expr} {op : CmpOp} {pos : Pos}, XOk X k Ns sc N cf → (isCmp o op && noSet r && okE Ns cs n sc a l && okE Ns cs n sc b r) = true → CJ N X (.Compare l [op] [r] pos) (evE cf (.cmp o a b)) := by
      intro sc X o a b l r op pos hX h
      simp only [Bool.and_eq_true, decide_eq_true_eq] at h
      obtain ⟨⟨⟨h1, h2⟩, h3⟩, h4⟩ := h
      rw [isCmp_eq h1]
      unfold evE
      exact cj_cmp hX h2 (ihE _ _ _ _ h3 hX) (ihE _ _ _ _ h4 hX)
    have chnJ : ∀ {sc : Scope} {X : Cx} {o p : CO} {a b c : ME} {l r t : Expr} {op op2 : CmpOp} {pos : Pos}, XOk X k Ns sc N cf → (isCmp o op && isCmp p op2 && noIn o && noIn p && noSet t && okE Ns cs n sc a l && okE Ns cs n sc b r && okE Ns cs n sc c t) = true →
        CJ N X (.Compare l [op, op2] [r, t] pos) (evE cf (.chn o p a b c)) := by
      intro sc X o p a b c l r t op op2 pos hX h
      simp only [Bool.and_eq_true, decide_eq_true_eq] at h
      obtain ⟨⟨⟨⟨⟨⟨⟨h1, h2⟩, h3⟩, h4⟩, h5⟩, h6⟩, h7⟩, h8⟩ := h
      rw [isCmp_eq h1, isCmp_eq h2]
      unfold evE
      exact cj_chn hX h3 h4 h5 (ihE _ _ _ _ h6 hX) (ihE _ _ _ _ h7 hX) (ihE _ _ _ _ h8 hX)
    have eE : ∀ sc m e X, okE Ns cs (n + 1) sc m e = true → XOk X k Ns sc N cf → EJ N X e (evE cf m) := by
      intro sc m e X h hX
      have hf : ∀ m e, okE Ns cs n sc m e = true → EJ N X e (evE cf m) := fun m e h => ihE sc m e X h hX
      unfold okE at h
      split at h
      · simp only [Bool.and_eq_true, decide_eq_true_eq] at h
        exact ej_var hX h.1.1 h.1.2 (nd1 h.2) (nd2 h.2)
      · unfold evE; exact ej_okC h
      · simp only [Bool.and_eq_true, decide_eq_true_eq] at h
        obtain ⟨⟨rfl, h1⟩, h2⟩ := h
        exact ej_glb hX h1 (nd1 h2)
      · simp only [Bool.and_eq_true, decide_eq_true_eq] at h
        obtain ⟨⟨rfl, h1⟩, h2⟩ := h
        exact ej_fnv hX h1 (nd1 h2)
      · simp only [Bool.and_eq_true, decide_eq_true_eq] at h
        rw [isOp_eq h.1.1]
        unfold evE
        exact ej_bop (hf _ _ h.1.2) (hf _ _ h.2)
      · unfold evE; exact ej_neg (hf _ _ h)
      · unfold evE; exact ej_not (hf _ _ h)
      · exact and_all hf h
      · exact or_all hf h
      · exact (cmpJ hX h).ej
      · exact (chnJ hX h).ej
      · simp only [Bool.and_eq_true] at h
        unfold evE
        exact ej_ife (ihT _ _ _ _ h.1.1 hX) (hf _ _ h.1.2) (hf _ _ h.2)
      · simp only [Bool.and_eq_true] at h
        unfold evE
        exact ej_tup (aj_all hf h.1 h.2)
      · simp only [Bool.and_eq_true] at h
        unfold evE
        exact ej_lst (aj_all hf h.1 h.2)
      · split at h
        · rename_i l ks vs p sc0 ps hk
          simp only [Bool.and_eq_true, decide_eq_true_eq] at h
          obtain ⟨rfl, rfl⟩ := keysOk_eq hk
          obtain ⟨q1, q2⟩ := kj_all hf h.2
          unfold evE
          by_cases h0 : ps = []
          · subst h0
            cases l with
            | nil => exact ej_dic0
            | cons => cases q1
          · exact ej_dic h0 h.1 q1 q2
        · cases h
      · unfold evE; exact ej_dnt
      · simp only [Bool.and_eq_true] at h
        unfold evE
        rw [slc_congr]
        exact ej_slc (hf _ _ h.1.1) (oj_of hf h.1.2) (oj_of hf h.2)
      · simp only [Bool.and_eq_true, decide_eq_true_eq] at h
        obtain ⟨rfl, h1⟩ := h
        unfold evE
        exact ej_rev (hf _ _ h1)
      · simp only [Bool.and_eq_true] at h
        unfold evE
        exact ej_idx hX h.1.1 (hf _ _ h.1.2) (hf _ _ h.2)
      · simp only [Bool.and_eq_true, decide_eq_true_eq] at h
        obtain ⟨⟨rfl, h1⟩, h2⟩ := h
        unfold evE
        exact ej_att hX h1 (hf _ _ h2)
      · simp only [Bool.and_eq_true, decide_eq_true_eq] at h
        obtain ⟨⟨⟨⟨rfl, h1⟩, h2⟩, h3⟩, h4⟩ := h
        rename_i f l p es q
        unfold evE
        split
        · rename_i fi hfi
          cases es with
          | nil =>
            cases l with
            | nil => unfold evL; exact ej_cal0 hX hfi h1 (nd1 h2)
            | cons => cases h4
          | cons e es => exact ej_cal hX hfi h1 (nd1 h2) h3 (aj_all hf h3 h4)
        · intro δ res z; cases z
      · simp only [Bool.and_eq_true, decide_eq_true_eq] at h
        obtain ⟨⟨⟨⟨⟨h0, h1⟩, h2⟩, h3⟩, h4⟩, h5⟩ := h
        obtain ⟨e', r, rfl⟩ := nempty h4
        unfold evE
        exact ej_clv hX h0 h1 (nd1 h2) (nd2 h2) h3 (aj_all hf h3 h5)
      · simp only [Bool.and_eq_true, decide_eq_true_eq] at h
        obtain ⟨⟨⟨⟨rfl, h1⟩, h2⟩, h3⟩, h4⟩ := h
        rename_i c l p es q
        unfold evE
        split
        · rename_i fi hfi
          exact ej_new hX hfi h1 (nd1 h2) h3 (aj_all hf h3 h4) fun z => by
            subst z
            cases l with
            | nil => unfold evL; rfl
            | cons => cases h4
        · intro δ res z; cases z
      · simp only [Bool.and_eq_true, decide_eq_true_eq] at h
        obtain ⟨⟨⟨⟨⟨⟨rfl, h1⟩, h2⟩, h3⟩, h4⟩, h5⟩, h6⟩ := h
        rename_i c m o l x ap es pos
        unfold evE
        split
        · rename_i fi hfi
          exact ej_mth hX hfi h1 h2 h3 h4 (hf _ _ h5) (aj_all hf h2 h6) fun z => by
            subst z
            cases l with
            | nil => unfold evL; rfl
            | cons => cases h6
        · intro δ res z; cases z
      · simp only [Bool.and_eq_true, decide_eq_true_eq] at h
        obtain ⟨⟨⟨⟨rfl, h1⟩, h2⟩, h3⟩, h4⟩ := h
        obtain ⟨e', r, rfl⟩ := nempty h3
        unfold evE
        exact ej_blt hX h1 h2 (aj_all hf h2 h4)
      · simp only [Bool.and_eq_true, decide_eq_true_eq] at h
        obtain ⟨⟨⟨⟨⟨⟨rfl, h1⟩, h2⟩, h3⟩, h4⟩, h5⟩, h6⟩ := h
        rename_i a t p x y p2 q
        unfold evE
        have hy : y = tyNm t := by
          unfold okTy at h5
          split at h5
          · simp only [Bool.and_eq_true, decide_eq_true_eq] at h5; exact h5.1
          · exact of_decide_eq_true h5
        have hk : TyOkN X N cf t := by
          unfold okTy at h5
          split at h5
          · simp only [Bool.and_eq_true, decide_eq_true_eq] at h5; exact hcs _ h5.2
          · cases t <;> first | exact True.intro | (rename_i hh; exact absurd rfl (hh _))
        subst hy
        exact ej_isi hX h4 h1 h2 (nd1 h3) hk (hf _ _ h6)
      · simp only [Bool.and_eq_true, decide_eq_true_eq] at h
        obtain ⟨⟨⟨⟨⟨⟨⟨⟨rfl, h1⟩, h2⟩, h3⟩, h4⟩, h5⟩, h6⟩, h7⟩, h8⟩ := h
        obtain ⟨e', r, rfl⟩ := nempty h5
        unfold evE
        exact ej_bmt hX h1 h2 h3 h4 h6 (hf _ _ h7) (aj_all hf h3 h8)
      · simp only [Bool.and_eq_true, decide_eq_true_eq] at h
        obtain ⟨⟨⟨⟨rfl, h1⟩, h2⟩, h3⟩, h4⟩ := h
        exact ej_pop hX h1 h2 (nd1 h3) (nd2 h3) h4
      · split at h
        · simp only [Bool.and_eq_true, decide_eq_true_eq] at h
          obtain ⟨⟨⟨⟨⟨⟨⟨⟨h1, h2⟩, h3⟩, h4⟩, h5⟩, h6⟩, h7⟩, h8⟩, h9⟩ := h
          have hk := scFn_of h1
          unfold evE
          exact ej_lc hX hk h2 h3 h4 h5 (ij_of hX hf h6) (fun s H C cl fp => cd_of (fun m e h => ihT _ m e _ h (hX.blk hk)) h7 h8) fun s H C cl fp => ihE _ _ _ _ h9 (hX.blk hk)
        · cases h
      · split at h
        · simp only [Bool.and_eq_true, decide_eq_true_eq] at h
          obtain ⟨⟨⟨⟨⟨⟨⟨⟨⟨h1, h2⟩, h3⟩, h4⟩, h5⟩, h6⟩, h7⟩, h8⟩, h9⟩, h10⟩ := h
          have hk := scFn_of h1
          unfold evE
          exact ej_dc hX hk h2 h3 h4 h5 (ij_of hX hf h6) (fun s H C cl fp => cd_of (fun m e h => ihT _ m e _ h (hX.blk hk)) h7 h8) (fun s H C cl fp => ihE _ _ _ _ h9 (hX.blk hk)) fun s H C cl fp => ihE _ _ _ _ h10 (hX.blk hk)
        · cases h
      · cases h
    refine ⟨eE, fun sc m e X h hX => ?_⟩
    unfold okT at h
    split at h
    · unfold evE
      refine (tj_not (ihT _ _ _ _ h hX)).congr fun δ => ?_
      exact congrFun (by
        show M.bnd (M.bnd _ _) _ = _
        rw [bnd_assoc]
        exact bnd_congr fun b => rfl) δ
    · exact (and_allT (fun m e h => ihT _ m e _ h hX) h).tj
    · exact (or_allT (fun m e h => ihT _ m e _ h hX) h).tj
    · exact (cmpJ hX h).tj
    · exact (chnJ hX h).tj
    · have h := Bool.and_eq_true_iff.mp h
      exact tj_val (ihE _ _ _ _ h.2 hX) (plT_ok h.1)
end
end Rl

set_option Elab.async false
set_option linter.all false
set_option maxRecDepth 100000
set_option maxHeartbeats 4000000
/-! Lay XE: try. -/
namespace Rl
open PySem L2 PySem.Spec PyProof.Rows
section
variable {K : PySem.W.Frag} {N : Nm} {σ σ0 : L2.St} {δ δ0 : Env} {Hb Hb0 H H0 : Hp} {i : Nat} {x : Option V}
theorem get_hide {j : Nat} {u : B} (h : (δ.set i none)[j]? = some (some u)) : i ≠ j ∧ δ[j]? = some (some u) := by
  by_cases e : i = j
  · subst e
    by_cases hl : i < δ.length
    · rw [List.getElem?_set_self hl] at h; cases h
    · rw [List.getElem?_eq_none (by rw [List.length_set]; omega)] at h; cases h
  · rw [List.getElem?_set_ne e] at h; exact ⟨e, h⟩
theorem own_hide (a : Addr) : Own (σ.set i x) (δ.set i none) a → Own σ δ a := fun ⟨j, d, q, z⟩ => by
  obtain ⟨n, h⟩ := get_hide q
  rw [List.getElem?_set_ne n] at z
  exact ⟨j, d, h, z⟩
/-- a slot is hidden: whatever stands there -/
theorem Good.hide (g : Good K N σ δ Hb H) : Good K N (σ.set i x) (δ.set i none) Hb H := by
  refine ⟨g.ex, fun j d q => ?_, fun j d q => ?_, fun j k p d e n q1 q2 z1 z2 => ?_, by rw [List.length_set, List.length_set]; exact g.len⟩
  · obtain ⟨n, h⟩ := get_hide q
    rw [List.getElem?_set_ne n]; exact g.dat j d h
  · obtain ⟨n, h⟩ := get_hide q
    rw [List.getElem?_set_ne n]; exact g.own j d h
  · obtain ⟨n1, h1⟩ := get_hide q1
    obtain ⟨n2, h2⟩ := get_hide q2
    rw [List.getElem?_set_ne n1] at z1
    rw [List.getElem?_set_ne n2] at z2
    exact g.sep j k p d e n h1 h2 z1 z2
theorem Stp.hide (s : Stp σ0 δ0 Hb0 H0 σ δ Hb H) : Stp σ0 δ0 Hb0 H0 (σ.set i x) (δ.set i none) Hb H :=
  ⟨s.hb, s.fresh, s.frame, s.dom, fun a h => s.own a (own_hide a h)⟩
theorem set_none (h : δ[i]? = some none) : δ.set i none = δ := by
  apply List.ext_getElem?
  intro j
  by_cases e : i = j
  · subst e
    rw [h]
    exact List.getElem?_set_self (by rw [List.getElem?_eq_some_iff] at h; exact h.1)
  · rw [List.getElem?_set_ne e]
end
theorem lookF {K : PySem.W.Frag} {N : Nm} {H : Hp} {f : Str} {d : D} : ∀ {xs : List (Str × V)} {fs : List (Str × D)}, RepF K N H xs fs → fs.lookup f = some d → ∃ v, xs.lookup f = some v ∧ Rep K N H v d
  | _, _, .nil, h => by cases h
  | _, _, @RepF.cons _ _ _ k v e vs ds a b, h => by
    rw [List.lookup_cons] at h ⊢
    cases q : f == k with
    | true => rw [q] at h; cases h; exact ⟨v, rfl, a⟩
    | false => rw [q] at h; exact lookF b h
section
variable (Ns : List Str)
def okA (sc : Scope) (nm : Option Str) : HA → Expr → Bool
  | .cst c, .Constant v _ _ => okC c v
  | .fld f, .Attribute (.Name n _) g _ => decide (g = f) && decide (nm = some n) && visB sc n && nd n
  | _, _ => false
def okX (sc : Scope) (nm : Option Str) : HX → Expr → Bool
  | .at a, e => okA sc nm a e
  | .lst l, .List es _ => es.all noStar && all2 (okA sc nm) l es
  | _, _ => false
def okN (sc : Scope) : Option Nat → Option Str → Nat → Bool
  | none, none, _ => true
  | some i, some n, j => decide (Ns[i]? = some n) && decide (sc.names.lookup n = some .local) && decide (i ≠ j)
  | _, _, _ => false
def okHd (sc : Scope) (h : HC) : ExceptHandler → Bool
  | .ExceptHandler (some (.Name x _)) nm [.Assign [.Name y _] e _] _ => decide (x = h.cls) && glB sc x && nd x && okN Ns sc h.nm nm h.to && decide (Ns[h.to]? = some y) && locB sc y && noComp e && okX sc nm h.e e
  | _ => false
end
section
variable {X : Cx} {k : Nat} {Ns : List Str} {sc : Scope} {N : Nm} {cf : Cfg} {keep : Nat → Bool}
theorem pe_okC {c : Sc} {v : Const} {j : Nat} {pos : Pos} (h : okC c v = true) : ∃ u, PE X (.Constant v j pos) (tC u) ∧ ∀ H, Rep X.K N H u (scD c) := by
  unfold okC at h
  split at h
  · exact ⟨_, pe_non, fun _ => .non⟩
  · rw [decide_eq_true_eq] at h; subst h; exact ⟨_, pe_bl, fun _ => .bl _⟩
  · rw [decide_eq_true_eq] at h; subst h; exact ⟨_, pe_int, fun _ => .int _⟩
  · rw [decide_eq_true_eq] at h; subst h; exact ⟨_, pe_str, fun _ => .str _⟩
  · cases h
variable {a C : Addr} {oe : Obj} {d : Option Addr} {pn : List (Addr × Obj)} {σ : L2.St} {δ : Env} {Hb H : Hp} {fl : List Str} {fs : List (Str × D)}
/-- what is known of the error that was caught -/
structure Err (X : Cx) (N : Nm) (C : Addr) (d : Option Addr) (Hb : Hp) (fl : List Str) (fs : List (Str × D)) : Prop where
  xf : XfC X.K C
  nof : ∀ y ∈ fl, PySem.W.findIn X.K (.ref C) y = some none
  fs : (d = none ∧ fs = []) ∨ ∃ dx xs, d = some dx ∧ Hb dx = some (.xd xs) ∧ RepF X.K N Hb xs fs
theorem ha_ev {nm : Option Str} (o : XOk X k Ns sc N cf) (e : Err X N C d Hb fl fs) (ex : Ex Hb H) (hz : Zc (.ref C) d oe) (hf : ∃ vs, oe.data = .fields vs) (hn : ∀ n, nm = some n → ∃ i : Nat, X.N[i]? = some n ∧ σ[i]? = some (some (V.ref a))) {h : HA} {x : Expr} {v : D}
    (hk : okA sc nm h x = true) (hv : haD fl fs h = some v) : ∃ u, Rep X.K N Hb u v ∧ ∀ Q : VK, Q u H → cE (X.suite a ((a, oe) :: pn)) x σ H Q := by
  unfold okA at hk
  split at hk
  · cases hv
    obtain ⟨u, h1, h2⟩ := pe_okC (X := X.suite a ((a, oe) :: pn)) (N := N) hk
    exact ⟨u, h2 _, fun Q q => cE_of h1 q⟩
  · rename_i f n p g p2
    simp only [Bool.and_eq_true, decide_eq_true_eq] at hk
    obtain ⟨⟨⟨rfl, h1⟩, h2⟩, h3⟩ := hk
    obtain ⟨i, hi, hs⟩ := hn n h1
    have hv : (if g ∈ fl then fs.lookup g else none) = some v := hv
    split at hv
    · rename_i hm
      rcases e.fs with ⟨_, rfl⟩ | ⟨dx, xs, rfl, hd, r⟩
      · cases hv
      · obtain ⟨u, l, ru⟩ := lookF r hv
        refine ⟨u, ru, fun Q q => cE_of (pe_xf e.xf (e.nof _ hm) hz hf (pe_var (X := X.suite a ((a, oe) :: pn)) hi (o.vis h2) (nd1 h3) (nd2 h3))) ?_⟩
        exact ⟨_, hs, rfl, rfl, dx, xs, u, rfl, ex _ _ hd, l, q⟩
    · cases hv
  · cases hk
theorem ha_evs {nm : Option Str} (o : XOk X k Ns sc N cf) (e : Err X N C d Hb fl fs) (ex : Ex Hb H) (hz : Zc (.ref C) d oe) (hf : ∃ vs, oe.data = .fields vs) (hn : ∀ n, nm = some n → ∃ i : Nat, X.N[i]? = some n ∧ σ[i]? = some (some (V.ref a))) : ∀ {l : List HA} {es : List Expr} {ds : List D},
    es.all noStar = true → all2 (okA sc nm) l es = true → haL fl fs l = some ds → ∃ us, RepL X.K N Hb us ds ∧ ∀ Q : List V → Hp → Prop, Q us H → cA (X.suite a ((a, oe) :: pn)) es σ H Q
  | [], [], ds, _, _, hv => by
    cases hv
    exact ⟨[], .nil, fun Q q => cA_of pa_nil q⟩
  | [], _ :: _, _, _, h, _ => by cases h
  | _ :: _, [], _, _, h, _ => by cases h
  | h :: l, x :: es, ds, hs, hk, hv => by
    have hk := Bool.and_eq_true_iff.mp hk
    rw [List.all_cons, Bool.and_eq_true] at hs
    unfold haL at hv
    split at hv
    · rename_i d1 ds1 e1 e2
      cases hv
      obtain ⟨u, r, q⟩ := ha_ev o e ex hz hf hn hk.1 e1
      obtain ⟨us, rs, qs⟩ := ha_evs o e ex hz hf hn hs.2 hk.2 e2
      exact ⟨u :: us, .cons r rs, fun Q z => cA_of (pa_cons (pe_c x) (pa_c es) (star_ok hs.1)) (q _ (qs _ z))⟩
    · cases hv
theorem hx_ev {nm : Option Str} (o : XOk X k Ns sc N cf) (e : Err X N C d Hb fl fs) (g : Good X.K N σ δ Hb H) (hz : Zc (.ref C) d oe) (hf : ∃ vs, oe.data = .fields vs) (hn : ∀ n, nm = some n → ∃ i : Nat, X.N[i]? = some n ∧ σ[i]? = some (some (V.ref a))) {h : HX} {x : Expr} {r : R}
    (hk : okX sc nm h x = true) (hv : hxR fl fs h = some r) {Q : VK} (post : ∀ v Hb' H', Stp σ δ Hb H σ δ Hb' H' → Good X.K N σ δ Hb' H' → RR X.K N σ δ Hb' H H' v r → Q v H') : cE (X.suite a ((a, oe) :: pn)) x σ H Q := by
  unfold okX at hk
  split at hk
  · obtain ⟨v, e1, rfl⟩ := map_some hv
    obtain ⟨u, r1, q⟩ := ha_ev o e g.ex hz hf hn hk e1
    exact q _ (post u Hb H Stp.refl g r1)
  · rename_i l es p
    simp only [Bool.and_eq_true] at hk
    have hv : (match haL fl fs l with | some ds => if szOk ds.length then some (R.own (.lst ds)) else none | none => none) = some r := hv
    split at hv
    · rename_i ds e1
      split at hv
      · rename_i hsz
        cases hv
        obtain ⟨us, rs, qs⟩ := ha_evs o e g.ex hz hf hn hk.1 hk.2 e1
        refine cE_of (pe_lst (pa_c es)) (qs _ ⟨rs.sz hsz, fun p hp => ?_⟩)
        exact fin_own g hp (.lst rs) fun v' Hb3 H3 s3 g3 r3 => post v' Hb3 H3 s3 g3 r3
      · cases hv
    · cases hv
  · cases hk
theorem hx_plain {fl : List Str} {fs : List (Str × D)} {h : HX} {r : R} (hv : hxR fl fs h = some r) : ∀ j, r ≠ .bor j := by
  intro j e
  subst e
  cases h with
  | «at» a =>
    obtain ⟨v, _, e⟩ := map_some hv
    cases e
  | lst l =>
    have hv : (match haL fl fs l with | some ds => if szOk ds.length then some (R.own (.lst ds)) else none | none => none) = some (R.bor j) := hv
    split at hv
    · split at hv
      · cases hv
      · cases hv
    · cases hv
theorem put_plain {i : Nat} {r : R} {δ δ2 : Env} {res : Res Fl} (hr : ∀ j, r ≠ .bor j) (h : put keep i r δ = some res) (e : res = .ok .nx δ2) : ∃ b, δ2 = δ.set i b := by
  subst e
  unfold put at h
  split at h
  · cases h
  · split at h
    · cases h; exact ⟨_, rfl⟩
    · cases h; exact ⟨_, rfl⟩
    · exact absurd rfl (hr _)
/-- what a clause wishes -/
def XClW (X : Cx) (N : Nm) (keep : Nat → Bool) (h : HC) (c : XCl) : Prop :=
  ∀ (C : Addr) (dd : Option Addr) (fl : List Str) (fs : List (Str × D)) (r : R) (δ' : Env) (res : Res Fl) (W : WX) (σ : L2.St) (δ : Env) (Hb0 H0 : Hp) (σ' : L2.St) (Hb H : Hp) (E : Ends), Err X N C dd Hb fl fs → Good X.K N σ' δ' Hb H → Stp σ δ Hb0 H0 σ' δ' Hb H →
    (∀ i, keep i = true → σ'[i]? = σ[i]?) → hxR fl fs h.e = some r → hput keep h.nm h.to r δ' = some res → SPost X.K N keep W σ δ Hb0 H0 E res → ∀ a, H a = none → c.wish a (.ref C) dd E σ' H
def suT (X : Cx) (su : List Stmt) (a : Addr) (cls : Value) (d : Option Addr) : TS := fun D σ H => ∀ (oe : Obj) (pn : List (Addr × Obj)), Zc cls d oe → (∃ vs, oe.data = .fields vs) → cSs (X.suite a ((a, oe) :: pn)) su D σ H
theorem cl_of (o : XOkS X k Ns sc N cf) {h : HC} {hd : ExceptHandler} {C' : Addr} (hk : okHd Ns sc h hd = true) (hm : X.mg h.cls = some (.ref C')) : ∃ c : XCl, hd = c.hd ∧ c.c = .ref C' ∧ XClOk X c ∧ XClW X N keep h c := by
  unfold okHd at hk
  split at hk
  · rename_i x np nm y py e p1 p2
    simp only [Bool.and_eq_true, decide_eq_true_eq] at hk
    obtain ⟨⟨⟨⟨⟨⟨⟨rfl, h2⟩, h3⟩, h4⟩, h5⟩, h6⟩, h7⟩, h8⟩ := hk
    have hset : ∀ {a : Addr} {oe : Obj} {pn : List (Addr × Obj)} {D : Ends} {σ : L2.St} {H : Hp}, cE (X.suite a ((a, oe) :: pn)) e σ H (fun v H1 => D.nx (σ.set h.to (some v)) H1) → cSs (X.suite a ((a, oe) :: pn)) [.Assign [.Name y py] e p1] D σ H := fun {a oe pn D σ H} q pins s I =>
      (pss_cons (ps_set (X := X.suite a ((a, oe) :: pn)) (by rw [show (X.suite a ((a, oe) :: pn)).N = X.N from rfl, o.hN]; exact o.nd) (o.ix h5) (o.loc h6) (pe_c e) (noComp_sw h7) (o.fnOr h6)) pss_nil).run pins s σ H D I q
    have hrun : ∀ (a : Addr) (oe : Obj) (cls : Value) (d : Option Addr) (pn : List (Addr × Obj)), Zc cls d oe → (∃ vs, oe.data = .fields vs) → PSs (X.suite a ((a, oe) :: pn)) [.Assign [.Name y py] e p1] (suT X [.Assign [.Name y py] e p1] a cls d) := fun a oe cls d pn hz hf => ⟨fun pins s σ H D I q => q oe pn hz hf pins s I⟩
    have nms : Names X h.cls (.ref C') := ⟨o.gl h2, nd1 h3, .inl hm⟩
    cases nm with
    | none =>
      have q1 : h.nm = none := by
        cases e : h.nm with
        | none => rfl
        | some i => rw [e] at h4; cases h4
      refine ⟨⟨h.cls, .ref C', none, _, _, suT X _, np, p2⟩, rfl, rfl, ⟨nms, (fun _ _ z => nomatch z), hrun⟩, ?_⟩
      intro C dd fl fs r δ' res W σ δ Hb0 H0 σ' Hb H E er g st kp hx hp post a ha
      intro oe pn hz hf
      refine hset (hx_ev (nm := none) o.toXOk er g hz hf (fun _ z => nomatch z) h8 hx fun v Hb1 H1 s1 g1 r1 => ?_)
      unfold hput at hp
      rw [q1] at hp
      obtain ⟨hk, δ2, Hb2, rfl, g2, s2, _⟩ := put_ok g1 (st.trans s1) (RR.base (show RR X.K N _ _ _ _ _ _ r from r1) st.dom) hp
      exact post _ Hb2 H1 s2 g2 fun j hj => (keep_set hk j hj).trans (kp j hj)
    | some n =>
      cases q1 : h.nm with
      | none => rw [q1] at h4; cases h4
      | some i =>
        rw [q1] at h4
        unfold okN at h4
        simp only [Bool.and_eq_true, decide_eq_true_eq] at h4
        obtain ⟨⟨b1, b2⟩, b3⟩ := h4
        refine ⟨⟨h.cls, .ref C', some (n, i), _, _, suT X _, np, p2⟩, rfl, rfl, ⟨nms, (fun _ _ z => ?_), hrun⟩, ?_⟩
        · cases z
          exact ⟨o.ix b1, by show X.env.scope.names.lookup n = _; rw [o.hsc]; exact b2⟩
        intro C dd fl fs r δ' res W σ δ Hb0 H0 σ' Hb H E er g st kp hx hp post a ha
        intro oe pn hz hf
        unfold hput at hp
        rw [q1] at hp
        have hp : (if keep i || decide (δ'.length ≤ i) then none else put keep h.to r (δ'.set i none)) = some res := hp
        split at hp
        · cases hp
        · rename_i hki
          have hki : keep i = false ∧ i < δ'.length := by
            cases h1 : keep i <;> simp_all
          refine hset (hx_ev (δ := δ'.set i none) o.toXOk er g.hide hz hf (fun n' z => ?_) h8 hx fun v Hb1 H1 s1 g1 r1 => ?_)
          · cases z
            exact ⟨i, o.ix b1, List.getElem?_set_self (by rw [g.len]; exact hki.2)⟩
          · obtain ⟨hk, δ2, Hb2, e1, g2, s2, _⟩ := put_ok g1 (st.hide.trans s1) (RR.base (show RR X.K N _ _ _ _ _ _ r from r1) st.dom) hp
            obtain ⟨b, e2⟩ := put_plain (hx_plain hx) hp e1
            have e0 : δ2[i]? = some none := by
              rw [e2, List.getElem?_set_ne (Ne.symm b3)]
              exact List.getElem?_set_self hki.2
            have g3 := g2.hide (i := i) (x := none)
            have s3 := s2.hide (i := i) (x := none)
            rw [set_none e0] at g3 s3
            subst e1
            refine post _ Hb2 H1 s3 g3 fun j hj => ?_
            rw [keep_set hki.1 j hj, keep_set hk j hj, keep_set hki.1 j hj, kp j hj]
  · cases hk
theorem cls_of (o : XOkS X k Ns sc N cf) : ∀ {hs : List HC} {hds : List ExceptHandler}, all2 (okHd Ns sc) hs hds = true → (hs.all fun h => cf.hcl h.cls) = true → ∃ l : List XCl, hds = l.map XCl.hd ∧ l.length = hs.length ∧ (∀ c ∈ l, XClOk X c) ∧
    ∀ (c : Str) (fs : List (Str × D)) (δ' : Env) (res : Res Fl) (W : WX) (σ : L2.St) (δ : Env) (Hb0 H0 : Hp) (σ' : L2.St) (Hb H : Hp) (E : Ends) (cv : Value) (dd : Option Addr), hdl cf keep hs c fs δ' = some res → Good X.K N σ' δ' Hb H → Stp σ δ Hb0 H0 σ' δ' Hb H → (∀ i, keep i = true → σ'[i]? = σ[i]?) →
      XR X.K N Hb cv dd c fs → SPost X.K N keep W σ δ Hb0 H0 E res → wCl X.K W E l cv dd σ' H
  | [], [], _, _ => ⟨[], rfl, rfl, (fun _ z => nomatch z), fun c fs δ' res W σ δ Hb0 H0 σ' Hb H E cv dd h g st kp xr post => by
    have h : some (Res.ex c fs δ') = some res := h
    cases h
    exact post cv dd σ' Hb H st g kp xr⟩
  | [], _ :: _, h, _ => by cases h
  | _ :: _, [], h, _ => by cases h
  | h :: hs, hd :: hds, hk, ha => by
    have hk := Bool.and_eq_true_iff.mp hk
    rw [List.all_cons, Bool.and_eq_true] at ha
    obtain ⟨C', hm⟩ := o.tab.hcl _ ha.1
    obtain ⟨c1, e1, e2, ok1, w1⟩ := cl_of (keep := keep) o hk.1 hm
    obtain ⟨l, q1, q2, q3, q4⟩ := cls_of o hk.2 ha.2
    refine ⟨c1 :: l, by rw [e1, q1]; rfl, by simp [q2], fun c z => ?_, fun c fs δ' res W σ δ Hb0 H0 σ' Hb H E cv dd h' g st kp xr post => ?_⟩
    · rcases List.mem_cons.mp z with z | z
      · rw [z]; exact ok1
      · exact q3 c z
    · unfold hdl at h'
      have xr0 := xr
      obtain ⟨C, hc, rfl, xs⟩ := xr
      cases m1 : cf.exm c h.cls with
      | none => rw [m1] at h'; cases h'
      | some b =>
        obtain ⟨C2, C3, n1, n2, n3⟩ := o.tab.exm _ _ _ m1
        rw [hc] at n1
        cases n1
        rw [hm] at n2
        cases n2
        cases b with
        | false =>
          rw [m1] at h'
          exact ⟨false, by rw [e2]; exact n3, (fun z => by cases z), fun _ => q4 c fs δ' res W σ δ Hb0 H0 σ' Hb H E _ dd h' g st kp xr0 post⟩
        | true =>
          cases m2 : cf.exc c with
          | none => rw [m1, m2] at h'; cases h'
          | some fl =>
            rw [m1, m2] at h'
            obtain ⟨⟨C4, fI, fd, c4, ea, _⟩, C5, c5, xf⟩ := o.tab.exc _ _ m2
            rw [hc] at c4 c5
            cases c4
            cases c5
            refine ⟨true, by rw [e2]; exact n3, fun _ a ha => ?_, fun z => by cases z⟩
            have h' : (match hxR fl fs h.e with | some r => hput keep h.nm h.to r | none => M.stuck) δ' = some res := h'
            cases m3 : hxR fl fs h.e with
            | none => rw [m3] at h'; cases h'
            | some r =>
              rw [m3] at h'
              exact w1 C dd fl fs r δ' res W σ δ Hb0 H0 σ' Hb H E ⟨xf, ea.nof, xs⟩ g st kp m3 h' post a ha
theorem XOkS.tr (o : XOkS X k Ns sc N cf) {pn : List (Addr × Obj)} {xe : Value → Shared → Prop} (hp : PassesOwn (model X.prog X.w) X.A X.env xe) : XOkS (X.tr pn xe) k Ns sc N cf :=
  { hN := o.hN, hsc := o.hsc, nd := o.nd, calm := o.calm, room := o.room, tab := o.tab, kind := o.kind, fnc := o.fnc, own := hp, stk := o.stk, frm := o.frm }
theorem sj_tri (o : XOkS X k Ns sc N cf) {body : List Stmt} {mb : M Fl} {hs : List HC} {hds : List ExceptHandler} {pos : Pos} (hb : ∀ (Y : Cx), XOkS Y k Ns sc N cf → Y.K = X.K → SsJ N Y keep body mb) (hk : all2 (okHd Ns sc) hs hds = true) (hne : hs ≠ []) :
    SJ N X keep (.Try body hds [] [] pos) (triM cf keep mb hs) := by
  intro δ res h W σ Hb H E tk g post
  unfold triM at h
  split at h
  · rename_i hc
    obtain ⟨l, e, ln, ok, w⟩ := cls_of (keep := keep) o hk hc
    subst e
    cases l with
    | nil => cases hs with
      | nil => exact absurd rfl hne
      | cons => cases ln
    | cons c0 l =>
      refine cS_of (ps_clauses (tb := fun W D σ H => ∃ δ Hb res, mb δ = some res ∧ Good X.K N σ δ Hb H ∧ SPost X.K N keep W σ δ Hb H D res) o.stk o.frm (by rw [o.hN]; exact o.nd) tk ok fun W pn xe tk2 hp => ⟨fun pins s σ H D I ⟨δ, Hb, res, h, g, post⟩ => hb (X.tr pn xe) (o.tr hp) rfl δ res h W σ Hb H D tk2 g post pins s I⟩) ?_
      split at h
      · rename_i f δ1 h1
        cases h
        refine ⟨δ, Hb, _, h1, g, ?_⟩
        cases f with
        | nx => exact post
        | rt r => exact post
      · rename_i c fs δ1 h1
        refine ⟨δ, Hb, _, h1, g, fun cv dd σ1 Hb1 H1 s1 g1 k1 x1 => ?_⟩
        exact w c fs δ1 res W σ δ Hb H σ1 Hb1 H1 E cv dd h g1 s1 k1 x1 post
      · cases h
  · cases h
end
end Rl

set_option Elab.async false
set_option linter.all false
set_option maxRecDepth 100000
set_option maxHeartbeats 4000000
/-! Lay XF: names = what a call hands back. -/
namespace Rl
open PySem L2
/-- a call, or an item -/
def callB : Expr → Bool
  | .Call _ _ _ _ => true
  | .Subscript _ _ _ => true
  | _ => false
section
variable {X : Cx} {k : Nat} {Ns : List Str} {sc : Scope} {N : Nm} {cf : Cfg} {keep : Nat → Bool} {pos : Pos}
theorem sj_unp (o : XOkS X k Ns sc N cf) {es : List Expr} {kk : Nat} {pt : Pos} {e : Expr} {m : M R} {l : List Nat} (hc : callB e = true) (htg : tgOk Ns (locB sc) (.many l) (.Tuple es kk pt) = true) (he : EJ N X e m) :
    SJ N X keep (.Assign [.Tuple es kk pt] e pos) (M.bnd m fun r => M.bnd (give r) fun d => setN keep l d) := by
  intro δ res h W σ Hb H E tk g post
  have h1 : swapsWithSole [.Tuple es kk pt] e pos.line X.env = pure false := by
    cases e <;> first | rfl | cases hc
  have h2 : swappedStores [.Tuple es kk pt] e X.env = pure none := by
    cases e <;> first | rfl | cases hc
  refine cS_of (ps_asg (pos := pos) (pe_c e) (pg_of o.toXOk (fun x hx => o.loc hx) (fun x hx => o.fnOr hx) htg) h1 h2) ?_
  rcases M.bnd_ok h with ⟨r, δ1, e1, h⟩ | ⟨c, fs, δ1, e1, rfl⟩
  · refine he δ _ e1 W σ Hb H _ tk g fun v Hb1 H1 s1 g1 r1 => ?_
    rcases M.bnd_ok h with ⟨d, δ2, e2, h⟩ | ⟨c, fs, δ2, e2, rfl⟩
    · obtain ⟨d', δ2', Hb2, q, s2, g2, r2, _⟩ := g1.give s1 r1 e2
      cases q
      unfold setN at h
      split at h
      · cases h
      · rename_i hk
        obtain ⟨δ3, e3, rfl⟩ := map_some h
        refine setG_ok (g := .many l) g2 r2 e3 fun σ4 z4 => ?_
        refine post σ4 Hb2 H1 (s2.trans z4.stp) z4.good fun j hj => z4.out j fun z => ?_
        exact List.any_eq_false.mp (Bool.eq_false_iff.mpr hk) j z hj
    · obtain ⟨_, _, _, q, _⟩ := g1.give s1 r1 e2
      cases q
  · exact he δ _ e1 W σ Hb H _ tk g fun cv dd Hb1 H1 s1 g1 r1 => post cv dd σ Hb1 H1 s1 g1 (fun _ _ => rfl) r1
end
end Rl

set_option Elab.async false
set_option linter.all false
set_option maxRecDepth 100000
set_option maxHeartbeats 8000000
/-! Lay ZA: the check of statements. -/
namespace Rl
open PySem L2
section
variable (Ns cs : List Str)
def okSb (f : ME → Expr → Bool) (sc : Scope) : List MT → List Expr → Bool
  | [], [] => true
  | .sb i ix :: ts, .Subscript (.Name x _) j _ :: es => decide (Ns[i]? = some x) && visB sc x && nd x && noSlice j && f ix j && okSb f sc ts es
  | _, _ => false
def okS : Nat → Scope → MS → Stmt → Bool
  | 0, _, _, _ => false
  | n + 1, sc, m, st => match m, st with
    | .set i e, .Assign [.Name x p] v _ => decide (Ns[i]? = some x) && locB sc x && ((noComp v && okE Ns cs n sc e v) || (match e, v with
        | .lc el tg it cd own, .ListComp elt gens scope _ => (match gens with
          | [⟨t, iter, ifs, 0⟩] => scFn scope && blkC Ns sc scope own && tgOk Ns (rawB scope) tg t && decide (∀ i ∈ gSl tg, i ∈ own.map (·.2)) && noSet iter && okI (okE Ns cs n sc) sc tg it t iter &&
              all2 (okT Ns cs n (relS scope sc)) cd ifs && decide (cd.length ≤ 1) && okE Ns cs n (relS scope sc) el elt
          | _ => false)
        | _, _ => false))
    | .par [.nm i, .nm j] es, .Assign [.Tuple [.Name x px, .Name y py] _ _] (.Tuple [a, b] _ _) _ => decide (Ns[i]? = some x) && decide (Ns[j]? = some y) && decide (i ≠ j) && decide (sc.names.lookup x = some .local) && decide (sc.names.lookup y = some .local) &&
        decide (x ≠ y) && decide (px.line = py.line) && noStar a && noStar b && !([a, b].all (foldedForSure 8)) && !([a, b].all (constantsAlone 8)) && all2 (okE Ns cs n sc) es [a, b]
    | .par ts es, .Assign [.Tuple tg _ _] (.Tuple vs _ _) _ => !ts.isEmpty && decide (ts.length ≤ 30) && vs.all noStar && all2 (okE Ns cs n sc) es vs && okSb Ns (okE Ns cs n sc) sc ts tg
    | .unp l e, .Assign [.Tuple tg _ _] v _ => callB v && tgOk Ns (locB sc) (.many l) (.Tuple tg 0 ⟨0, 0, 0, 0⟩) && okE Ns cs n sc e v
    | .sto i ix e, .Assign [.Subscript (.Name x _) j _] v _ => decide (Ns[i]? = some x) && visB sc x && nd x && noSlice j && okE Ns cs n sc e v && okE Ns cs n sc ix j
    | .fld i f e, .Assign [.Attribute (.Name x _) g _] v _ => decide (f = g) && decide (Ns[i]? = some x) && visB sc x && nd x && okE Ns cs n sc e v
    | .app i e, .Expr (.Call (.Attribute (.Name x _) g ap) [v] [] cp) _ => decide (g = ("append" : Str)) && decide (Ns[i]? = some x) && visB sc x && nd x && noStar v && (ap.endLine == cp.line) && okE Ns cs n sc e v
    | .exp e, .Expr v _ => noComp v && okE Ns cs n sc e v
    | .ite c a b, .If x p q _ => okT Ns cs n sc c x && all2 (okS n sc) a p && all2 (okS n sc) b q
    | .whl c b, .While x p [] _ => okT Ns cs n sc c x && all2 (okS n sc) b p
    | .fr tg it b, .For t iter p [] _ => noSet iter && tgOk Ns (locB sc) tg t && okI (okE Ns cs n sc) sc tg it t iter && all2 (okS n sc) b p
    | .ret e, .Return (some v) _ => okE Ns cs n sc e v
    | .rtn, .Return none _ => true
    | .pas, .Pass _ => true
    | .rai c l, .Raise (some (.Call (.Name x _) es [] _)) none _ => decide (x = c) && glB sc x && nd x && es.all noStar && decide (es.length ≤ 2) && all2 (okE Ns cs n sc) l es
    | .tri b hs, .Try body hds [] [] _ => all2 (okHd Ns sc) hs hds && !hs.isEmpty && all2 (okS n sc) b body
    | .nev, _ => true
    | _, _ => false
end
section
variable {k : Nat} {Ns cs : List Str} {N : Nm} {cf : Cfg} {keep : Nat → Bool} {F : Nat}
theorem ss_all {X : Cx} {f : MS → Stmt → Bool} (hf : ∀ m s, f m s = true → SJ N X keep s (evS cf F keep m)) : ∀ {l : List MS} {sts : List Stmt}, all2 f l sts = true → SsJ N X keep sts (evSs cf F keep l)
  | [], [], _ => by unfold evSs; exact ss_nil
  | [], _ :: _, h => by cases h
  | _ :: _, [], h => by cases h
  | m :: l, s :: sts, h => by
    have h := Bool.and_eq_true_iff.mp h
    unfold evSs
    exact ss_cons (hf m s h.1) (ss_all hf h.2)
theorem sb_of {X : Cx} {sc : Scope} {f : ME → Expr → Bool} (hf : ∀ m e, f m e = true → EJ N X e (evE cf m)) : ∀ {ts : List MT} {es : List Expr}, okSb Ns f sc ts es = true → SbOk N X Ns sc cf ts es
  | [], [], _ => .nil
  | [], _ :: _, h => by cases h
  | .nm _ :: _, _, h => by unfold okSb at h; cases h
  | .sb _ _ :: _, [], h => by cases h
  | .sb i ix :: ts, e :: es, h => by
    unfold okSb at h
    split at h
    · rename_i q; cases q
    · rename_i i' ix' ts' x p j p2 es' q1 q2
      cases q1
      cases q2
      simp only [Bool.and_eq_true, decide_eq_true_eq] at h
      obtain ⟨⟨⟨⟨⟨h1, h2⟩, h3⟩, h4⟩, h5⟩, h6⟩ := h
      exact .sb h1 h2 (nd1 h3) (nd2 h3) h4 (hf _ _ h5) (sb_of hf h6)
    · cases h
theorem all2_len {α β : Type} {f : α → β → Bool} : ∀ {l : List α} {r : List β}, all2 f l r = true → l.length = r.length
  | [], [], _ => rfl
  | [], _ :: _, h => by cases h
  | _ :: _, [], h => by cases h
  | _ :: _, _ :: _, h => by
    rw [List.length_cons, List.length_cons, all2_len (Bool.and_eq_true_iff.mp h).2]
theorem sj_rai {X : Cx} {sc : Scope} {c : Str} {l : List ME} {es : List Expr} {p p2 pos : Pos} (o : XOk X k Ns sc N cf) (hg : glB sc c = true) (hdb : (c == ("__debug__" : Str)) = false) (hs : es.all noStar = true) (hl : es.length ≤ 2) (he : l.length = es.length) (ha : AJ N X es (evL cf l)) :
    SJ N X keep (.Raise (some (.Call (.Name c p) es [] p2)) none pos) (evS cf F keep (.rai c l)) := by
  unfold evS
  cases q : cf.exc c with
  | none => exact sj_nev fun δ => rfl
  | some fl =>
    obtain ⟨E, _⟩ := o.tab.exc _ _ q
    by_cases hlen : l.length = fl.length
    · show SJ N X keep _ (if l.length = fl.length then raiM c fl (evL cf l) else M.stuck)
      rw [if_pos hlen]
      cases es with
      | nil =>
        cases l with
        | cons => cases he
        | nil =>
          cases fl with
          | cons => cases hlen
          | nil => exact sj_rai0 o E hg hdb
      | cons e1 es =>
        rw [List.all_cons, Bool.and_eq_true] at hs
        cases fl with
        | nil => rw [hlen] at he; cases he
        | cons f1 fl =>
          cases es with
          | nil =>
            cases fl with
            | nil => exact sj_rai1 o E hg hdb hs.1 ha
            | cons => rw [hlen] at he; cases he
          | cons e2 es =>
            rw [List.all_cons, Bool.and_eq_true] at hs
            cases es with
            | cons => exact absurd hl (by simp)
            | nil =>
              cases fl with
              | nil => rw [hlen] at he; cases he
              | cons f2 fl =>
                cases fl with
                | cons => rw [hlen] at he; simp at he
                | nil => exact sj_rai2 o E hg hdb hs.1 hs.2.1 ha
    · show SJ N X keep _ (if l.length = fl.length then raiM c fl (evL cf l) else M.stuck)
      rw [if_neg hlen]
      exact sj_nev fun δ => rfl
theorem okS_sound (hcs : ∀ c ∈ cs, ∃ C, N.cls c = some C ∧ (cf.flds c).isSome = true) : ∀ n sc m st X, okS Ns cs n sc m st = true → XOkS X k Ns sc N cf → SJ N X keep st (evS cf F keep m)
  | 0, sc, m, st, X, h => by unfold okS at h; cases h
  | n + 1, sc, m, st, X, h => fun hX => by
    have hE : ∀ m e, okE Ns cs n sc m e = true → EJ N X e (evE cf m) := fun m e h => (ok_sound (k := k) hcs n).1 sc m e X h hX.toXOk
    have hT : ∀ m e, okT Ns cs n sc m e = true → TJ N X e (tst (evE cf m)) := fun m e h => (ok_sound (k := k) hcs n).2 sc m e X h hX.toXOk
    have hS : ∀ m s, okS Ns cs n sc m s = true → SJ N X keep s (evS cf F keep m) := fun m s h => okS_sound hcs n sc m s X h hX
    unfold okS at h
    split at h
    · simp only [Bool.and_eq_true, decide_eq_true_eq, Bool.or_eq_true] at h
      obtain ⟨⟨h1, h2⟩, h3 | h3⟩ := h
      · unfold evS; exact sj_set hX h1 h2 h3.1 (hE _ _ h3.2)
      · split at h3
        · split at h3
          · simp only [Bool.and_eq_true, decide_eq_true_eq] at h3
            obtain ⟨⟨⟨⟨⟨⟨⟨⟨a1, a2⟩, a3⟩, a4⟩, a5⟩, a6⟩, a7⟩, a8⟩, a9⟩ := h3
            have hk := scFn_of a1
            unfold evS evE
            exact sj_setLc hX h1 h2 hk a2 a3 a4 a5 (ij_of hX.toXOk hE a6) (fun s H C cl fp => cd_of (fun m e h => (ok_sound (k := k) hcs n).2 _ m e _ h (hX.toXOk.blk hk)) a7 a8) fun s H C cl fp => (ok_sound (k := k) hcs n).1 _ _ _ _ a9 (hX.toXOk.blk hk)
          · cases h3
        · cases h3
    · simp only [Bool.and_eq_true, decide_eq_true_eq, Bool.not_eq_true'] at h
      obtain ⟨⟨⟨⟨⟨⟨⟨⟨⟨⟨⟨h1, h2⟩, h3⟩, h4⟩, h5⟩, h6⟩, h7⟩, h8⟩, h9⟩, h10⟩, h11⟩, h12⟩ := h
      unfold evS
      refine sj_par2 hX h1 h2 h3 h4 h5 h6 h7 h8 h9 h10 h11 (aj_all hE ?_ h12)
      rw [List.all_cons, List.all_cons, h8, h9]; rfl
    · simp only [Bool.and_eq_true, decide_eq_true_eq, Bool.not_eq_true'] at h
      obtain ⟨⟨⟨⟨h1, h2⟩, h3⟩, h4⟩, h5⟩ := h
      unfold evS
      exact sj_parS hX (by intro z; subst z; cases h1) h2 (sb_of hE h5) (aj_all hE h3 h4)
    · simp only [Bool.and_eq_true] at h
      obtain ⟨⟨h1, h2⟩, h3⟩ := h
      unfold evS
      exact sj_unp hX h1 h2 (hE _ _ h3)
    · simp only [Bool.and_eq_true, decide_eq_true_eq] at h
      obtain ⟨⟨⟨⟨⟨h1, h2⟩, h3⟩, h4⟩, h5⟩, h6⟩ := h
      unfold evS
      exact sj_sto hX h1 h2 (nd1 h3) (nd2 h3) h4 (hE _ _ h5) (hE _ _ h6)
    · simp only [Bool.and_eq_true, decide_eq_true_eq] at h
      obtain ⟨⟨⟨⟨rfl, h2⟩, h3⟩, h4⟩, h5⟩ := h
      unfold evS
      exact sj_fld hX h2 h3 (nd1 h4) (nd2 h4) (hE _ _ h5)
    · simp only [Bool.and_eq_true, decide_eq_true_eq] at h
      obtain ⟨⟨⟨⟨⟨⟨rfl, h2⟩, h3⟩, h4⟩, h5⟩, h6⟩, h7⟩ := h
      unfold evS
      exact sj_app hX h2 h3 (nd1 h4) (nd2 h4) h5 h6 (hE _ _ h7)
    · have h := Bool.and_eq_true_iff.mp h
      unfold evS
      exact sj_exp hX h.1 (hE _ _ h.2)
    · simp only [Bool.and_eq_true] at h
      unfold evS
      exact sj_ite (hT _ _ h.1.1) (ss_all hS h.1.2) (ss_all hS h.2)
    · simp only [Bool.and_eq_true] at h
      unfold evS
      exact sj_whl hX (hT _ _ h.1) (ss_all hS h.2) F
    · simp only [Bool.and_eq_true] at h
      obtain ⟨⟨⟨h1, h2⟩, h3⟩, h4⟩ := h
      unfold evS
      exact sj_fr hX h1 h2 (ij_of hX.toXOk hE h3) (ss_all hS h4)
    · unfold evS; exact sj_ret (hE _ _ h)
    · unfold evS; exact sj_rtn
    · unfold evS; exact sj_pas
    · simp only [Bool.and_eq_true, decide_eq_true_eq] at h
      obtain ⟨⟨⟨⟨⟨rfl, h2⟩, h3⟩, h4⟩, h5⟩, h6⟩ := h
      exact sj_rai hX.toXOk h2 (nd1 h3) h4 h5 (all2_len h6) (aj_all hE h4 h6)
    · simp only [Bool.and_eq_true, Bool.not_eq_true'] at h
      obtain ⟨⟨h1, h2⟩, h3⟩ := h
      unfold evS
      exact sj_tri hX (fun Y hY _ => ss_all (fun m s h => okS_sound hcs n sc m s Y h hY) h3) h1 (by intro z; subst z; cases h2)
    · unfold evS; exact sj_nev fun δ => rfl
    · cases h
end
end Rl

set_option Elab.async false
set_option linter.all false
set_option maxRecDepth 100000
set_option maxHeartbeats 8000000
/-! Lay ZB: a def keeps what its run says. -/
namespace Rl
open PySem L2
theorem startD_len : ∀ {mask : List Bool} {ds : List D}, ds.length = mask.length → (startD mask ds).length = mask.length
  | [], [], _ => rfl
  | [], _ :: _, h => by cases h
  | _ :: _, [], h => by cases h
  | true :: ms, d :: ds, h => by
    show (startD ms ds).length + 1 = ms.length + 1
    rw [startD_len (by simpa using h)]
  | false :: ms, d :: ds, h => by
    show (startD ms ds).length + 1 = ms.length + 1
    rw [startD_len (by simpa using h)]
theorem startD_own : ∀ {mask : List Bool} {ds : List D} {i : Nat}, ds.length = mask.length → mask[i]? = some true → ∃ d, (startD mask ds)[i]? = some (some (.own d))
  | [], _, _, _, h => by simp at h
  | _ :: _, [], _, h, _ => by cases h
  | true :: ms, d :: ds, 0, _, _ => ⟨d, rfl⟩
  | false :: ms, d :: ds, 0, _, h => by simp at h
  | true :: ms, d :: ds, i + 1, h, h2 => startD_own (mask := ms) (ds := ds) (by simpa using h) (by simpa using h2)
  | false :: ms, d :: ds, i + 1, h, h2 => startD_own (mask := ms) (ds := ds) (by simpa using h) (by simpa using h2)
theorem startD_dat : ∀ {mask : List Bool} {ds : List D} {i : Nat} {d : D}, (startD mask ds)[i]? = some (some (.own d)) → mask[i]? = some true
  | [], _, _, _, h => by simp [startD] at h
  | true :: ms, [], _, _, h => by simp [startD] at h
  | false :: ms, [], _, _, h => by simp [startD] at h
  | true :: ms, d :: ds, 0, _, _ => rfl
  | false :: ms, d :: ds, 0, _, h => by
    have h : (some (some (B.dat d)) : Option (Option B)) = _ := h
    cases h
  | true :: ms, d :: ds, i + 1, e, h => startD_dat (mask := ms) (ds := ds) (i := i) (d := e) h
  | false :: ms, d :: ds, i + 1, e, h => startD_dat (mask := ms) (ds := ds) (i := i) (d := e) h
theorem upd_spec : ∀ {mask : List Bool} {l : Env} {as : List D} {δ δ2 : Env} {j : Nat}, restD δ j mask = some as → updA mask l as = some δ2 → mask.length = l.length → δ2.length = l.length ∧
    ∀ i x, δ2[i]? = some x → (mask[i]? = some true ∧ ∃ d, x = some (.own d) ∧ δ[j + i]? = some (some (.own d))) ∨ (mask[i]? = some false ∧ l[i]? = some x)
  | [], l, as, δ, δ2, j, h1, h2, hl => by
    cases l with
    | cons => cases hl
    | nil =>
      cases (Option.some.inj h1)
      cases (Option.some.inj h2)
      exact ⟨rfl, fun i x h => by simp at h⟩
  | true :: ms, l, as, δ, δ2, j, h1, h2, hl => by
    cases l with
    | nil => cases hl
    | cons y l =>
      unfold restD at h1
      split at h1
      · rename_i d r hd hr
        cases (Option.some.inj h1)
        obtain ⟨δ3, h3, rfl⟩ := map_some (show (updA ms l r).map (some (.own d) :: ·) = some δ2 from h2)
        obtain ⟨q1, q2⟩ := upd_spec hr h3 (by simpa using hl)
        refine ⟨by simp [q1], fun i x h => ?_⟩
        cases i with
        | zero =>
          have h : some (some (B.own d)) = some x := h
          cases h
          exact .inl ⟨rfl, d, rfl, hd⟩
        | succ i =>
          rcases q2 i x h with ⟨a, e, b, c⟩ | ⟨a, b⟩
          · refine .inl ⟨a, e, b, ?_⟩
            have : j + 1 + i = j + (i + 1) := by omega
            rw [← this]; exact c
          · exact .inr ⟨a, b⟩
      · cases h1
  | false :: ms, l, as, δ, δ2, j, h1, h2, hl => by
    cases l with
    | nil => cases hl
    | cons y l =>
      have h1 : restD δ (j + 1) ms = some as := h1
      obtain ⟨δ3, h3, rfl⟩ := map_some (show (updA ms l as).map (y :: ·) = some δ2 from h2)
      obtain ⟨q1, q2⟩ := upd_spec h1 h3 (by simpa using hl)
      refine ⟨by simp [q1], fun i x h => ?_⟩
      cases i with
      | zero => exact .inr ⟨rfl, h⟩
      | succ i =>
        rcases q2 i x h with ⟨a, e, b, c⟩ | ⟨a, b⟩
        · refine .inl ⟨a, e, b, ?_⟩
          have : j + 1 + i = j + (i + 1) := by omega
          rw [← this]; exact c
        · exact .inr ⟨a, b⟩
theorem pad_get {α : Type} {l : List (Option α)} {n i : Nat} {x : α} (h : (l ++ List.replicate n none)[i]? = some (some x)) : l[i]? = some (some x) := by
  rw [List.getElem?_append] at h
  split at h
  · exact h
  · rw [List.getElem?_replicate] at h
    split at h <;> cases h
theorem pad_of {α : Type} {l : List (Option α)} {n i : Nat} {x : Option α} (h : l[i]? = some x) : (l ++ List.replicate n none)[i]? = some x := by
  rw [List.getElem?_append_left]
  · exact h
  · exact (List.getElem?_eq_some_iff.mp h).1
section
variable {K : PySem.W.Frag} {N : Nm} {σ : L2.St} {δ : Env} {Hb H : Hp}
theorem Good.pad {n m : Nat} (g : Good K N σ δ Hb H) (e : n = m) : Good K N (σ ++ List.replicate n none) (δ ++ List.replicate m none) Hb H := by
  subst e
  refine ⟨g.ex, fun i d q => ?_, fun i d q => ?_, fun i j a d e n q1 q2 z1 z2 => g.sep i j a d e n (pad_get q1) (pad_get q2) (pad_get z1) (pad_get z2), by simp [g.len]⟩
  · obtain ⟨v, a, b⟩ := g.dat i d (pad_get q)
    exact ⟨v, pad_of a, b⟩
  · obtain ⟨p, o, a, b⟩ := g.own i d (pad_get q)
    exact ⟨p, o, pad_of a, b⟩
theorem own_pad {n m : Nat} {a : Addr} (h : Own (σ ++ List.replicate n none) (δ ++ List.replicate m none) a) : Own σ δ a := let ⟨i, d, x, y⟩ := h; ⟨i, d, pad_get x, pad_get y⟩
/-- the ends of a run, for the caller -/
structure Fin2 (K : PySem.W.Frag) (N : Nm) (vs : List V) (mask : List Bool) (ds : List D) (Hb H : Hp) (δ2 : Env) (σ' : L2.St) (δ' : Env) (Hb' H' : Hp) : Prop where
  stp : Stp (vs.map some) (startD mask ds) Hb H (vs.map some) δ2 Hb' H'
  good : Good K N (vs.map some) δ2 Hb' H'
  own : ∀ a, Own (vs.map some) δ2 a → Own σ' δ' a
  own2 : ∀ a, Own (vs.map some) (startD mask ds) a → Own σ' δ' a
theorem keepOf_true {mask : List Bool} {i : Nat} (h : mask[i]? = some true) : keepOf mask i = true := by
  unfold keepOf
  rw [List.getD_eq_getElem?_getD, h]
  rfl
theorem fin2 {vs : List V} {mask : List Bool} {ds as : List D} {n m : Nat} {δ2 : Env} {σ' : L2.St} {δ' : Env} {Hb' H' : Hp} (hv : vs.length = mask.length) (hd : ds.length = mask.length) (g0 : Good K N (vs.map some) (startD mask ds) Hb H)
    (s : Stp (vs.map some ++ List.replicate n none) (startD mask ds ++ List.replicate m none) Hb H σ' δ' Hb' H') (g : Good K N σ' δ' Hb' H') (kp : ∀ i, keepOf mask i = true → σ'[i]? = (vs.map some ++ List.replicate n none)[i]?)
    (hr : restD δ' 0 mask = some as) (hu : updA mask (startD mask ds) as = some δ2) : Fin2 K N vs mask ds Hb H δ2 σ' δ' Hb' H' := by
  obtain ⟨hl, sp⟩ := upd_spec hr hu (startD_len hd).symm
  have at_ : ∀ {i : Nat} {v : V}, mask[i]? = some true → (vs.map some)[i]? = some (some v) → σ'[i]? = some (some v) := fun {i v} h1 h2 => by
    rw [kp i (keepOf_true h1)]
    exact pad_of h2
  have back : ∀ {i : Nat} {d : D}, δ2[i]? = some (some (.own d)) → mask[i]? = some true ∧ δ'[i]? = some (some (.own d)) := fun {i d} q => by
    rcases sp i _ q with ⟨a, e, b, c⟩ | ⟨a, b⟩
    · cases b
      rw [Nat.zero_add] at c
      exact ⟨a, c⟩
    · have := startD_dat b
      rw [this] at a; cases a
  have ow : ∀ a, Own (vs.map some) δ2 a → Own σ' δ' a := fun a ⟨i, d, q, z⟩ => by
    obtain ⟨m1, m2⟩ := back q
    exact ⟨i, d, m2, at_ m1 z⟩
  have ow3 : ∀ a, Own (vs.map some) δ2 a → Own (vs.map some) (startD mask ds) a := fun a ⟨i, d, q, z⟩ => by
    obtain ⟨m1, m2⟩ := back q
    obtain ⟨d', h'⟩ := startD_own hd m1
    exact ⟨i, d', h', z⟩
  have own_of : ∀ {i : Nat}, mask[i]? = some true → ∃ d, δ'[i]? = some (some (.own d)) := fun {i} h => by
    have hlt : i < δ2.length := by
      rw [hl, startD_len hd]
      exact (List.getElem?_eq_some_iff.mp h).1
    rcases sp i _ (List.getElem?_eq_getElem hlt) with ⟨_, e, _, c⟩ | ⟨a, _⟩
    · rw [Nat.zero_add] at c; exact ⟨e, c⟩
    · rw [h] at a; cases a
  refine ⟨⟨s.hb, fun a h n => ?_, fun a o h n => s.frame a o h fun z => n (own_pad z), s.dom, fun a h => .inl (ow3 a h)⟩, ⟨g.ex, fun i d q => ?_, fun i d q => ?_, fun i j a d e n q1 q2 z1 z2 => ?_, by rw [hl]; exact g0.len⟩, ow, fun a ⟨i, d, q, z⟩ => ?_⟩
  · rcases s.fresh a h n with z | z
    · exact .inl z
    · exact .inr (own_pad z)
  · rcases sp i _ q with ⟨a, e, b, c⟩ | ⟨a, b⟩
    · cases b
    · obtain ⟨v, x, y⟩ := g0.dat i d b
      exact ⟨v, x, y.mono s.hb⟩
  · obtain ⟨m1, m2⟩ := back q
    obtain ⟨p, o, a, b⟩ := g.own i d m2
    have hlt : i < (vs.map some).length := by
      rw [List.length_map, hv]
      exact (List.getElem?_eq_some_iff.mp m1).1
    obtain ⟨v, hv'⟩ : ∃ v, (vs.map some)[i]? = some (some v) := by
      rw [List.length_map] at hlt
      exact ⟨vs[i], by rw [List.getElem?_map, List.getElem?_eq_getElem hlt]; rfl⟩
    have := at_ m1 hv'
    rw [a] at this
    cases this
    exact ⟨p, o, hv', b⟩
  · obtain ⟨m1, m2⟩ := back q1
    obtain ⟨n1, n2⟩ := back q2
    exact g.sep i j a d e n m2 n2 (at_ m1 z1) (at_ n1 z2)
  · have m1 := startD_dat q
    obtain ⟨d', h'⟩ := own_of m1
    exact ⟨i, d', h', at_ m1 z⟩
end
theorem fn_run {P : Program} {w : World} {K : PySem.W.Frag} {mg : Str → Option Value} {base : Heap} {k : Nat} {N : Nm} {cf : Cfg} {Ns cs ps : List Str} {x qual : Str} {st : Stmt} {f : Addr} {fd : FuncData} {mask : List Bool} {body : List MS} {F n : Nat}
    (hcs : ∀ c ∈ cs, ∃ C, N.cls c = some C ∧ (cf.flds c).isSome = true) (T : Tab P w K mg base k N cf) (Fu : Fun K x qual st f fd) (S : FnScope Ns ps (defScope st)) (hps : ps.length = mask.length) (hNs : mask.length ≤ Ns.length)
    (hok : all2 (okS Ns cs n (defScope st)) body (defBody st) = true) : FnOk P w K mg base (L2.CX P w) (k + 2) f fd ps (spOf K N ⟨mask, run cf F mask Ns.length body⟩) := by
  refine Fun.okX Fu S (fun vs H Q E h => ?_) fun cdv A outer s H vs Q E hr hsp => ?_
  · obtain ⟨_, _, _, a, _⟩ := h
    exact a.trans hps.symm
  · obtain ⟨Hb, ds, o, hv, hd, g, hrun, hpost⟩ := hsp
    refine ⟨_, pss_c _, ?_⟩
    have hX : XOkS (cxOf (L2.CX P w) P w K mg base Ns qual (defScope st) f cdv A outer s H E) k Ns (defScope st) N cf := { hN := rfl, hsc := rfl, nd := S.nd, calm := rfl, room := hr, tab := T, kind := S.kind, fnc := fun _ _ => rfl, own := passes_of rfl, stk := rfl, frm := rfl }
    have tk : Takes (cxOf (L2.CX P w) P w K mg base Ns qual (defScope st) f cdv A outer s H E) (fun cls d _ H => E cls d H) := takes_of rfl rfl rfl rfl
    have hJ := ss_all (keep := keepOf mask) (F := F) (fun m s h => okS_sound hcs n _ m s _ h hX) hok
    have hrun : run cf F mask Ns.length body ds = some o := hrun
    unfold run at hrun
    have hd' : ds.length = mask.length := hd
    have hv' : vs.length = mask.length := hv
    rw [if_neg (fun z => z hd')] at hrun
    have g1 : Good K N (start Ns vs) (startD mask ds ++ List.replicate (Ns.length - mask.length) none) Hb H := Good.pad g (by rw [hv'])
    split at hrun
    · rename_i δ' he
      obtain ⟨as, ha, rfl⟩ := map_some hrun
      obtain ⟨δ2, hu, q⟩ := hpost
      refine hJ _ _ he _ _ Hb H _ tk g1 fun σ' Hb' H' s' g' k' => ?_
      have z := fin2 hv' hd' g s' g' k' ha hu
      exact q .non Hb' H' z.stp z.good .non
    · rename_i d δ' he
      obtain ⟨as, ha, rfl⟩ := map_some hrun
      obtain ⟨δ2, hu, q⟩ := hpost
      refine hJ _ _ he _ _ Hb H _ tk g1 fun v σ' Hb' H' s' g' k' r' => ?_
      have z := fin2 hv' hd' g s' g' k' ha hu
      exact q v Hb' H' z.stp z.good r'
    · rename_i d δ' he
      obtain ⟨as, ha, rfl⟩ := map_some hrun
      obtain ⟨δ2, hu, q⟩ := hpost
      refine hJ _ _ he _ _ Hb H _ tk g1 fun v σ' Hb' H' s' g' k' r' => ?_
      have z := fin2 hv' hd' g s' g' k' ha hu
      obtain ⟨p, ob, e1, e2, e3, e4, e5, e6⟩ := r'
      refine q v Hb' H' z.stp z.good ⟨p, ob, e1, ?_, e3, e4, e5, fun y => e6 (z.own p y)⟩
      rcases e2 with e2 | e2
      · exact e2
      · exact absurd (z.own2 p (own_pad e2)) e6
    · rename_i c fs δ' he
      obtain ⟨as, ha, rfl⟩ := map_some hrun
      obtain ⟨δ2, hu, q⟩ := hpost
      refine hJ _ _ he _ _ Hb H _ tk g1 fun cv dd σ' Hb' H' s' g' k' r' => ?_
      have z := fin2 hv' hd' g s' g' k' ha hu
      exact q cv dd Hb' H' z.stp z.good r'
    · cases hrun
end Rl

set_option Elab.async false
set_option linter.all false
set_option maxRecDepth 100000
set_option maxHeartbeats 4000000
/-! Lay ZC: the table, def by def. -/
namespace Rl
open PySem L2
inductive Slot where
  | fn (x : Str) | ini (c : Str) | prp (c f : Str) | mth (c m : Str)
  deriving DecidableEq
def addE (cf : Cfg) (s : Slot) (fi : FI) : Cfg := match s with
  | .fn x => { cf with fns := fun y => if y = x then some fi else cf.fns y }
  | .ini c => { cf with ini := fun y => if y = c then some fi else cf.ini y }
  | .prp c f => { cf with prp := fun y z => if y = c ∧ z = f then some fi else cf.prp y z }
  | .mth c m => { cf with mth := fun y z => if y = c ∧ z = m then some fi else cf.mth y z }
structure Ent where
  slot : Slot
  name : Str
  qual : Str
  st : Stmt
  ns : List Str
  ps : List Str
  mask : List Bool
  body : List MS
def Ent.fi (cf : Cfg) (F : Nat) (e : Ent) : FI := ⟨e.mask, run cf F e.mask e.ns.length e.body⟩
def Ent.add (cf : Cfg) (F : Nat) (e : Ent) : Cfg := addE cf e.slot (e.fi cf F)
def cfgOf (cf : Cfg) (F : Nat) : List Ent → Cfg
  | [] => cf
  | e :: r => cfgOf (e.add cf F) F r
section
variable {P : Program} {w : World} {K : PySem.W.Frag} {mg : Str → Option Value} {base : Heap} {k k' : Nat} {N : Nm} {cf : Cfg}
theorem FnAt.mono {a : Addr} {fi : FI} (h : FnAt P w K mg base k N a fi) (le : k ≤ k') : FnAt P w K mg base k' N a fi :=
  let ⟨fd, ps, a, b⟩ := h; ⟨fd, ps, a.mono le, b⟩
theorem Tab.mono (T : Tab P w K mg base k N cf) (le : k ≤ k') : Tab P w K mg base k' N cf where
  fns := fun f fi h => let ⟨a, b, c, d⟩ := T.fns f fi h; ⟨a, b, c, d.mono le⟩
  inj := T.inj
  glb := T.glb
  blt := T.blt
  cls := T.cls
  fld := T.fld
  prp := fun c f fi h => let ⟨C, p, g, a, b, d, e, q⟩ := T.prp c f fi h; ⟨C, p, g, a, b, d, e.mono le, q⟩
  mth := fun c f fi h => let ⟨C, p, a, b, d, e⟩ := T.mth c f fi h; ⟨C, p, a, b, d, e.mono le⟩
  ini := fun c fi h => let ⟨C, p, a, b, d, e⟩ := T.ini c fi h; ⟨C, p, a, b, d, e.mono le⟩
  eqs := T.eqs
  isi := T.isi
  exc := fun c fl h => let ⟨a, b⟩ := T.exc c fl h; ⟨a.mono le, b⟩
  hcl := T.hcl
  exm := T.exm
/-- what the top has written of the slot; a: the def's address -/
def SlotOk (K : PySem.W.Frag) (mg : Str → Option Value) (N : Nm) (cf : Cfg) (a : Addr) (mask : List Bool) : Slot → Prop
  | .fn x => mg x = some (.ref a) ∧ N.fn x = some a
  | .ini c => ∃ C, N.cls c = some C ∧ mg c = some (.ref C) ∧ Mk K C a
  | .prp c f => ∃ C p, N.cls c = some C ∧ (cf.flds c).isSome = true ∧ PropOf K C f p a ∧ mask = [false]
  | .mth c m => ∃ C, N.cls c = some C ∧ (cf.flds c).isSome = true ∧ Meth K C m a ∧ (m = ("__eq__" : Str) → PySem.W.findIn K (.ref C) "__ne__" = some (some (.builtin "object.__ne__")) ∧ PySem.W.mroIn K C (.type "object") = some true ∧ PySem.W.subIn K (.type "list") (.ref C) = some false)
theorem Tab.addE (T : Tab P w K mg base k N cf) {a : Addr} {fi : FI} {s : Slot} (h : SlotOk K mg N cf a fi.mask s) (f : FnAt P w K mg base k N a fi) : Tab P w K mg base k N (addE cf s fi) := by
  cases s with
  | fn x =>
    refine { T with fns := fun y fi' h' => ?_ }
    have h' : (if y = x then some fi else cf.fns y) = some fi' := h'
    split at h'
    · rename_i e
      cases h'
      subst e
      exact ⟨a, h.1, h.2, f⟩
    · exact T.fns y fi' h'
  | ini c =>
    refine { T with ini := fun y fi' h' => ?_ }
    have h' : (if y = c then some fi else cf.ini y) = some fi' := h'
    split at h'
    · rename_i e
      cases h'
      subst e
      obtain ⟨C, h1, h2, h3⟩ := h
      exact ⟨C, a, h1, h2, h3, f⟩
    · exact T.ini y fi' h'
  | prp c m =>
    refine { T with prp := fun y z fi' h' => ?_ }
    have h' : (if y = c ∧ z = m then some fi else cf.prp y z) = some fi' := h'
    split at h'
    · rename_i e
      cases h'
      obtain ⟨rfl, rfl⟩ := e
      obtain ⟨C, p, h1, h2, h3, h4⟩ := h
      exact ⟨C, p, a, h1, h2, h3, f, h4⟩
    · exact T.prp y z fi' h'
  | mth c m =>
    refine { T with mth := fun y z fi' h' => ?_, eqs := fun y fi' h' => ?_ }
    · have h' : (if y = c ∧ z = m then some fi else cf.mth y z) = some fi' := h'
      split at h'
      · rename_i e
        cases h'
        obtain ⟨rfl, rfl⟩ := e
        obtain ⟨C, h1, h2, h3, _⟩ := h
        exact ⟨C, a, h1, h2, h3, f⟩
      · exact T.mth y z fi' h'
    · have h' : (if y = c ∧ ("__eq__" : Str) = m then some fi else cf.mth y "__eq__") = some fi' := h'
      split at h'
      · rename_i e
        obtain ⟨rfl, e2⟩ := e
        obtain ⟨C, h1, h2, h3, h4⟩ := h
        exact ⟨C, h1, h4 e2.symm⟩
      · exact T.eqs y fi' h'
/-- the text of the entry is as its term says -/
structure EntOk (cs : List Str) (e : Ent) : Prop where
  sc : FnScope e.ns e.ps (defScope e.st)
  len : e.ps.length = e.mask.length
  le : e.mask.length ≤ e.ns.length
  ok : ∃ n, all2 (okS e.ns cs n (defScope e.st)) e.body (defBody e.st) = true
/-- what the top has written of the entry -/
structure EntAt (K : PySem.W.Frag) (mg : Str → Option Value) (N : Nm) (cf : Cfg) (e : Ent) : Prop where
  at_ : ∃ a fd, Fun K e.name e.qual e.st a fd ∧ Binds K fd e.ps [] ∧ SlotOk K mg N cf a e.mask e.slot
theorem addE_flds {s : Slot} {fi : FI} : (addE cf s fi).flds = cf.flds := by cases s <;> rfl
theorem SlotOk.add {a : Addr} {mask : List Bool} {s s' : Slot} {fi : FI} (h : SlotOk K mg N cf a mask s) : SlotOk K mg N (addE cf s' fi) a mask s := by
  cases s with
  | fn x => exact h
  | ini c => exact h
  | prp c f =>
    unfold SlotOk at h ⊢
    rw [addE_flds]
    exact h
  | mth c f =>
    unfold SlotOk at h ⊢
    rw [addE_flds]
    exact h
theorem cfgOf_flds {F : Nat} : ∀ {es : List Ent} {cf : Cfg}, (cfgOf cf F es).flds = cf.flds
  | [], _ => rfl
  | e :: es, cf => by
    show (cfgOf (e.add cf F) F es).flds = cf.flds
    rw [cfgOf_flds]
    exact addE_flds
theorem tab_all {cs : List Str} {F : Nat} (hcs : ∀ c ∈ cs, ∃ C, N.cls c = some C ∧ (cf.flds c).isSome = true) : ∀ {es : List Ent} {k : Nat}, Tab P w K mg base k N cf → (∀ e ∈ es, EntOk cs e) → (∀ e ∈ es, EntAt K mg N cf e) → Tab P w K mg base (k + 2 * es.length) N (cfgOf cf F es) := by
  intro es
  induction es generalizing cf with
  | nil => intro k T _ _; exact T
  | cons e es ih =>
    intro k T h1 h2
    obtain ⟨a, fd, Fu, Bi, So⟩ := (h2 e List.mem_cons_self).at_
    have ok := h1 e List.mem_cons_self
    obtain ⟨n, hn⟩ := ok.ok
    have FO := fn_run (F := F) hcs T Fu ok.sc ok.len ok.le hn
    have T2 : Tab P w K mg base (k + 2) N (e.add cf F) := (T.mono (Nat.le_add_right _ _)).addE (fi := e.fi cf F) So ⟨fd, e.ps, FO, Fu.kp, Bi, ok.len⟩
    have e1 : k + 2 * (e :: es).length = (k + 2) + 2 * es.length := by rw [List.length_cons]; omega
    rw [e1]
    refine ih (fun c hc => ?_) T2 (fun e he => h1 e (List.mem_cons_of_mem _ he)) fun e' he => ?_
    · obtain ⟨C, a1, a2⟩ := hcs c hc
      refine ⟨C, a1, ?_⟩
      show ((addE cf e.slot _).flds c).isSome = true
      rw [addE_flds]
      exact a2
    · obtain ⟨a', fd', x1, x2, x3⟩ := (h2 e' (List.mem_cons_of_mem _ he)).at_
      exact ⟨a', fd', x1, x2, x3.add⟩
end
end Rl

set_option Elab.async false
set_option linter.all false
set_option maxRecDepth 100000
set_option maxHeartbeats 4000000
/-! Lay ZD: the law's end. -/
namespace Rl
open PySem L2
def spLaw (K : PySem.W.Frag) : Sp := fun vs H Q _ => ∃ (a : Addr) (ns : List Int), vs = [.ref a] ∧ SqL K H a (ns.map V.int) ∧ ns.length ≤ 63 ∧ ∀ H', Q (.bl true) H'
theorem RepL.ints {K : PySem.W.Frag} {N : Nm} {H : Hp} : ∀ ns : List Int, RepL K N H (ns.map V.int) (ns.map D.int)
  | [] => .nil
  | n :: ns => .cons (.int n) (RepL.ints ns)
theorem law_end {K : PySem.W.Frag} {N : Nm} {fi : FI} (hm : fi.mask = [false]) (hrun : ∀ ns : List Int, ns.length ≤ 63 → fi.sem [.scr (ns.map .int)] = some (.ret false (.bl true) [])) (vs : List V) (H : Hp) (Q : VK) (E : XK) (h : spLaw K vs H Q E) : spOf K N fi vs H Q E := by
  obtain ⟨a, ns, rfl, hs, hl, hq⟩ := h
  refine ⟨H, [.scr (ns.map .int)], _, by rw [hm]; rfl, by rw [hm]; rfl, ?_, hrun ns hl, ?_⟩
  · rw [hm]
    refine ⟨Ex.refl _, fun i d q => ?_, fun i d q => ?_, fun i j p d e _ q _ => ?_, rfl⟩
    · cases i with
      | zero =>
        have q : some (some (B.dat (.scr (ns.map .int)))) = some (some (.dat d)) := q
        cases q
        exact ⟨_, rfl, .scr hs (RepL.ints ns)⟩
      | succ i => cases i <;> (simp [startD] at q)
    · cases i with
      | zero =>
        have q : some (some (B.dat (.scr (ns.map .int)))) = some (some (.own d)) := q
        cases q
      | succ i => cases i <;> (simp [startD] at q)
    · cases i with
      | zero =>
        have q : some (some (B.dat (.scr (ns.map .int)))) = some (some (.own d)) := q
        cases q
      | succ i => cases i <;> (simp [startD] at q)
  · rw [hm]
    refine ⟨_, rfl, fun v Hb' H' _ _ r => ?_⟩
    cases (show Rep K N Hb' v (.bl true) from r)
    exact hq H'
theorem cx_none {P : Program} {w : World} {H : Hp} {s : Shared} {e : Value} {s' : Shared} (h : L2.CX P w [] H s (fun _ _ _ => False) e s') : False := by
  obtain ⟨_, _, _, _, _, _, _, _, _, _, _, _, z⟩ := h
  exact z
end Rl
namespace Rl
open PySem L2
theorem kit_self {K : PySem.W.Frag} {C : Addr} : PySem.W.kitOne K (.ref C) (.ref C) = some true := by
  unfold PySem.W.kitOne
  rw [if_pos]
  exact beq_self_eq_true _
theorem kit_own {K : PySem.W.Frag} {C : Addr} {t : String} (h1 : PySem.W.isClsIn K C = true) (h2 : PySem.W.typeIn K (.ref C) = some (.type "type")) (h3 : PySem.W.subIn K (.type t) (.ref C) = some false) : PySem.W.kitOne K (.type t) (.ref C) = some false := by
  unfold PySem.W.kitOne
  rw [if_neg]
  · unfold PySem.W.kitCls
    dsimp only
    have h1' : (PySem.W.clsIn K C).isSome = true := h1
    rw [h1', h2, if_pos (by simp)]
    exact h3
  · simp
/-- which clause takes an error -/
theorem exm_of {K : PySem.W.Frag} {S T : Addr} {b : Bool} (h1 : PySem.W.subIn K (.ref T) (.type "BaseException") = some true) (h2 : PySem.W.isClsIn K T = true) (h3 : PySem.W.typeIn K (.ref T) = some (.type "type")) (h4 : PySem.W.subIn K (.ref S) (.ref T) = some b) : PySem.W.exmOne K (.ref S) (.ref T) = some b := by
  have e1 : (PySem.W.subIn K (.ref T) (.type "BaseException") == some true) = true := by rw [h1]; rfl
  have e2 : ((PySem.W.clsIn K T).isSome && PySem.W.typeIn K (.ref T) == some (.type "type")) = true := by
    rw [show (PySem.W.clsIn K T).isSome = true from h2, h3]; rfl
  unfold PySem.W.exmOne
  rw [if_pos e1]
  unfold PySem.W.kitCls
  first
    | rw [if_pos e2]; exact h4
    | simpa [e2] using h4
def exF (t : List (Str × Str × Bool)) (c h : Str) : Option Bool := (t.find? fun x => decide (x.1 = c ∧ x.2.1 = h)).map (·.2.2)
theorem exT_mem {t : List (Str × Str × Bool)} {c h : Str} {b : Bool} (e : exF t c h = some b) : (c, h, b) ∈ t := by
  unfold exF at e
  cases q : t.find? fun x => decide (x.1 = c ∧ x.2.1 = h) with
  | none => rw [q] at e; cases e
  | some x =>
    rw [q] at e
    cases e
    have h1 := of_decide_eq_true (List.find?_some (p := fun x : Str × Str × Bool => decide (x.1 = c ∧ x.2.1 = h)) q)
    have h2 := List.mem_of_find?_eq_some q
    obtain ⟨x1, x2, x3⟩ := x
    obtain ⟨rfl, rfl⟩ := h1
    exact h2
end Rl

set_option Elab.async false
set_option linter.all false
/-! the terms of the defs that laws share -/
namespace Rl
open PySem L2
-- InvalidDie.__init__: 1 slots, [True]
def m_InvalidDie_init : List MS := [.pas]
-- InvalidRule.__init__: 1 slots, [True]
def m_InvalidRule_init : List MS := [.pas]
-- InvalidPlaces.__init__: 2 slots, [True, False]
def m_InvalidPlaces_init : List MS := [.pas,
    .fld 0 "kind" (.var 1)]
-- NoEnd.__init__: 1 slots, [True]
def m_NoEnd_init : List MS := [.pas]
-- is_whole: 1 slots, [False]
def m_is_whole : List MS := [.ret (.and (.isi (.var 0) .int) (.not (.isi (.var 0) .bool)))]
-- is_within: 3 slots, [False, False, False]
def m_is_within : List MS := [.ret (.and (.cal "is_whole" [(.var 0)]) (.chn .le .le (.var 1) (.var 0) (.var 2)))]
-- common: 2 slots, [False, False]
def m_common : List MS := [.par [.nm 0, .nm 1] [(.blt .abs [(.var 0)]), (.blt .abs [(.var 1)])],
    .whl (.cmp .gt (.var 1) (.cst (.int 0))) [.par [.nm 0, .nm 1] [(.var 1), (.bop .sub (.var 0) (.bop .mul (.bop .fdiv (.var 0) (.var 1)) (.var 1)))]],
    .ret (.var 0)]
-- fraction: 3 slots, [False, False]
def m_fraction : List MS := [.ite (.cmp .lt (.var 1) (.cst (.int 0))) [.par [.nm 0, .nm 1] [(.neg (.var 0)), (.neg (.var 1))]] [],
    .set 2 (.cal "common" [(.var 0), (.var 1)]),
    .ret (.tup [(.bop .fdiv (.var 0) (.var 2)), (.bop .fdiv (.var 1) (.var 2))])]
-- is_die: 4 slots, [False]
def m_is_die : List MS := [.ite (.or (.not (.isi (.var 0) .tuple)) (.not (.chn .le .le (.cst (.int 1)) (.blt .len [(.var 0)]) (.glb "MOST_FACES")))) [.ret (.cst (.bl false))] [],
    .ite (.or (.not (.blt .all [(.lc (.cal "is_within" [(.var 3), (.cst (.int 0)), (.glb "MOST_SHARE")]) (.one 3) (.seq (.var 0)) [] [("share", 3)])])) (.cmp .eq (.idx (.var 0) (.neg (.cst (.int 1)))) (.cst (.int 0)))) [.ret (.cst (.bl false))] [],
    .set 1 (.cst (.int 0)),
    .fr (.many [2, 3]) (.enu (.var 0)) [.ite (.cmp .gt (.var 3) (.cst (.int 0))) [.set 1 (.cal "common" [(.var 1), (.bop .add (.var 2) (.cst (.int 1)))])] []],
    .ret (.cmp .eq (.var 1) (.cst (.int 1)))]
-- is_note: 1 slots, [False]
def m_is_note : List MS := [.ite (.or (.not (.isi (.var 0) .tuple)) (.or (.cmp .ne (.blt .len [(.var 0)]) (.cst (.int 3))) (.not (.cal "is_within" [(.idx (.var 0) (.cst (.int 0))), (.cst (.int 1)), (.glb "MOST_PLACE")])))) [.ret (.cst (.bl false))] [],
    .ite (.not (.isi (.idx (.var 0) (.cst (.int 1))) .str)) [.ret (.cst (.bl false))] [],
    .ite (.cmp .eq (.idx (.var 0) (.cst (.int 1))) (.glb "WAIT")) [.ret (.cal "is_within" [(.idx (.var 0) (.cst (.int 2))), (.cst (.int 1)), (.glb "MOST_WAIT")])] [],
    .ret (.and (.cmp .eq (.idx (.var 0) (.cst (.int 1))) (.glb "GO")) (.cal "is_within" [(.idx (.var 0) (.cst (.int 2))), (.cst (.int 0)), (.glb "MOST_PLACE")]))]
-- are_notes: 5 slots, [False]
def m_are_notes : List MS := [.ite (.or (.not (.isi (.var 0) .tuple)) (.not (.blt .all [(.lc (.cal "is_note" [(.var 2)]) (.one 2) (.seq (.var 0)) [] [("note", 2)])]))) [.ret (.cst (.bl false))] [],
    .set 1 (.lc (.idx (.var 2) (.cst (.int 0))) (.one 2) (.seq (.var 0)) [] [("note", 2)]),
    .ite (.not (.blt .all [(.lc (.cmp .lt (.var 3) (.var 4)) (.many [3, 4]) (.zip (.var 1) (.slc (.var 1) [(.cst (.int 1))] [])) [] [("one", 3), ("other", 4)])])) [.ret (.cst (.bl false))] [],
    .ret (.not (.blt .any [(.lc (.and (.cmp .eq (.idx (.var 2) (.cst (.int 1))) (.glb "GO")) (.cmp .inn (.idx (.var 2) (.cst (.int 2))) (.var 1))) (.one 2) (.seq (.var 0)) [] [("note", 2)])]))]
-- greatest_in: 2 slots, [False]
def m_greatest_in : List MS := [.ret (.blt .max [(.bop .add (.bop .add (.lst [(.cst (.int 0))]) (.lc (.idx (.var 1) (.cst (.int 0))) (.one 1) (.seq (.var 0)) [] [("note", 1)])) (.lc (.idx (.var 1) (.cst (.int 2))) (.one 1) (.seq (.var 0)) [(.cmp .eq (.idx (.var 1) (.cst (.int 1))) (.glb "GO"))] [("note", 1)]))])]
-- Race.__init__: 9 slots, [True, False, False, False, False]
def m_Race_init : List MS := [.ite (.not (.cal "is_die" [(.var 1)])) [.rai "InvalidDie" []] [],
    .ite (.or (.not (.isi (.var 2) .str)) (.cmp .nin (.var 2) (.glb "RULES"))) [.rai "InvalidRule" []] [],
    .fr (.many [5, 6]) (.seq (.tup [(.tup [(.cst (.str "near")), (.var 3)]), (.tup [(.cst (.str "far")), (.var 4)])])) [.ite (.not (.cal "are_notes" [(.var 6)])) [.rai "InvalidPlaces" [(.var 5)]] []],
    .fld 0 "shares" (.var 1),
    .fld 0 "word" (.var 2),
    .fld 0 "starts" (.var 3),
    .fld 0 "tails" (.var 4),
    .fld 0 "chances" (.lc (.cal "fraction" [(.var 7), (.blt .sum [(.var 1)])]) (.one 7) (.seq (.var 1)) [] [("share", 7)]),
    .fld 0 "goes" (.lc (.dc (.idx (.var 8) (.cst (.int 0))) (.idx (.var 8) (.cst (.int 2))) (.one 8) (.seq (.var 6)) [(.cmp .eq (.idx (.var 8) (.cst (.int 1))) (.glb "GO"))] [("note", 8)]) (.one 6) (.seq (.tup [(.var 3), (.var 4)])) [] [("notes", 6)]),
    .fld 0 "pauses" (.lc (.dc (.idx (.var 8) (.cst (.int 0))) (.idx (.var 8) (.cst (.int 2))) (.one 8) (.seq (.var 6)) [(.cmp .eq (.idx (.var 8) (.cst (.int 1))) (.glb "WAIT"))] [("note", 8)]) (.one 6) (.seq (.tup [(.var 3), (.var 4)])) [] [("notes", 6)]),
    .ite (.not (.cal "has_end" [(.var 0)])) [.rai "NoEnd" []] []]
-- Race.die: 1 slots, [False]
def m_Race_die : List MS := [.ret (.att (.var 0) "shares")]
-- Race.rule: 1 slots, [False]
def m_Race_rule : List MS := [.ret (.att (.var 0) "word")]
-- Race.near: 1 slots, [False]
def m_Race_near : List MS := [.ret (.att (.var 0) "starts")]
-- Race.far: 1 slots, [False]
def m_Race_far : List MS := [.ret (.att (.var 0) "tails")]
-- Race.least_length: 1 slots, [False]
def m_Race_least_length : List MS := [.ret (.bop .add (.bop .add (.cal "greatest_in" [(.att (.var 0) "starts")]) (.cal "greatest_in" [(.att (.var 0) "tails")])) (.blt .len [(.att (.var 0) "shares")]))]
-- Race.__eq__: 2 slots, [False, False]
def m_Race_eq : List MS := [.ite (.or (.not (.isi (.var 1) (.cls "Race"))) (.or (.cmp .ne (.att (.var 0) "shares") (.att (.var 1) "shares")) (.cmp .ne (.att (.var 0) "word") (.att (.var 1) "word")))) [.ret (.cst (.bl false))] [],
    .ret (.and (.cmp .eq (.att (.var 0) "starts") (.att (.var 1) "starts")) (.cmp .eq (.att (.var 0) "tails") (.att (.var 1) "tails")))]
-- faces_of: 3 slots, [False]
def m_faces_of : List MS := [.ret (.lc (.bop .add (.var 1) (.cst (.int 1))) (.many [1, 2]) (.enu (.att (.var 0) "shares")) [(.cmp .gt (.var 2) (.cst (.int 0)))] [("at", 1), ("share", 2)])]
-- near_size: 1 slots, [False]
def m_near_size : List MS := [.ret (.cal "greatest_in" [(.att (.var 0) "starts")])]
-- far_size: 1 slots, [False]
def m_far_size : List MS := [.ret (.blt .max [(.lst [(.cal "greatest_in" [(.att (.var 0) "tails")]), (.bop .sub (.blt .len [(.att (.var 0) "shares")]) (.cst (.int 1)))])])]
-- far_behind: 4 slots, [False, False, False]
def m_far_behind : List MS := [.set 3 (.bop .sub (.var 1) (.var 2)),
    .ite (.cmp .lt (.var 3) (.cst (.int 0))) [.ite (.cmp .eq (.att (.var 0) "word") (.cst (.str "stay"))) [.ret (.cst .non)] [], .set 3 (.ife (.cmp .eq (.att (.var 0) "word") (.cst (.str "bounce"))) (.neg (.var 3)) (.cst (.int 0)))] [],
    .ret (.bmt .get (.idx (.att (.var 0) "goes") (.cst (.int 1))) [(.var 3), (.var 3)])]
-- near_behind: 3 slots, [False, False, False]
def m_near_behind : List MS := [.ret (.bmt .get (.idx (.att (.var 0) "goes") (.cst (.int 0))) [(.bop .add (.var 1) (.var 2)), (.bop .add (.var 1) (.var 2))])]
-- near_nexts: 3 slots, [False, False]
def m_near_nexts : List MS := [.ite (.cmp .gt (.var 1) (.cal "near_size" [(.var 0)])) [.ret (.lst [])] [],
    .ret (.lc (.cal "near_behind" [(.var 0), (.var 1), (.var 2)]) (.one 2) (.seq (.cal "faces_of" [(.var 0)])) [] [("face", 2)])]
-- far_nexts: 5 slots, [False, False]
def m_far_nexts : List MS := [.ite (.cmp .eq (.var 1) (.cst (.int 0))) [.ret (.lst [])] [],
    .set 2 (.lc (.cal "far_behind" [(.var 0), (.var 1), (.var 3)]) (.one 3) (.seq (.cal "faces_of" [(.var 0)])) [] [("face", 3)]),
    .ret (.lc (.var 4) (.one 4) (.seq (.var 2)) [(.cmp .isn (.var 4) (.cst .non))] [("left", 4)])]
-- ways_from: 6 slots, [False, False, False]
def m_ways_from : List MS := [.par [.nm 3, .nm 4] [(.dic [((.var 1), (.cst (.bl true)))]), (.lst [(.var 1)])],
    .whl (.cmp .ne (.var 4) (.lst [])) [.fr (.one 5) (.seq (.clv 2 [(.var 0), (.pop 4)])) [.ite (.cmp .nin (.var 5) (.var 3)) [.sto 3 (.var 5) (.cst (.bl true)), .app 4 (.var 5)] []]],
    .ret (.blt .list [(.var 3)])]
-- has_end: 6 slots, [False]
def m_has_end : List MS := [.par [.nm 1, .nm 2] [(.cal "near_size" [(.var 0)]), (.cal "far_size" [(.var 0)])],
    .fr (.one 3) (.seq (.lc (.var 3) (.one 3) (.rg1 (.bop .add (.var 1) (.cst (.int 1)))) [(.cmp .nin (.var 3) (.idx (.att (.var 0) "goes") (.cst (.int 0))))] [("place", 3)])) [.ite (.cmp .le (.blt .max [(.lc (.var 5) (.one 5) (.seq (.cal "ways_from" [(.var 0), (.var 3), (.fnv "near_nexts")])) [] [("there", 5)])]) (.var 1)) [.ret (.cst (.bl false))] []],
    .fr (.one 4) (.seq (.lc (.var 4) (.one 4) (.rg2 (.cst (.int 1)) (.bop .add (.var 2) (.cst (.int 1)))) [(.cmp .nin (.var 4) (.idx (.att (.var 0) "goes") (.cst (.int 1))))] [("distance", 4)])) [.ite (.cmp .nin (.cst (.int 0)) (.cal "ways_from" [(.var 0), (.var 4), (.fnv "far_nexts")])) [.ret (.cst (.bl false))] []],
    .ret (.cst (.bl true))]
-- _law_taken: 4 slots, [True, False]
def m_law_taken : List MS := [.ite (.cmp .gt (.idx (.var 0) (.cst (.int 3))) (.cst (.int 0))) [.set 2 (.bop .mod (.blt .int [(.idx (.var 0) (.cst (.int 3)))]) (.var 1)), .sto 0 (.cst (.int 3)) (.bop .fdiv (.idx (.var 0) (.cst (.int 3))) (.var 1)), .ret (.var 2)] [],
    .sto 0 (.cst (.int 1)) (.bop .add (.idx (.var 0) (.cst (.int 1))) (.cst (.int 1))),
    .ite (.cmp .gt (.idx (.var 0) (.cst (.int 1))) (.blt .len [(.idx (.var 0) (.cst (.int 0)))])) [.sto 0 (.cst (.int 2)) (.bop .mod (.blt .int [(.bop .add (.bop .mul (.idx (.var 0) (.cst (.int 2))) (.cst (.int 48271))) (.cst (.int 11)))]) (.cst (.int 2147483647))), .ret (.bop .mod (.blt .int [(.bop .fdiv (.idx (.var 0) (.cst (.int 2))) (.cst (.int 7)))]) (.var 1))] [],
    .set 3 (.idx (.idx (.var 0) (.cst (.int 0))) (.bop .sub (.idx (.var 0) (.cst (.int 1))) (.cst (.int 1)))),
    .sto 0 (.cst (.int 2)) (.bop .mod (.blt .int [(.bop .add (.bop .add (.bop .mul (.idx (.var 0) (.cst (.int 2))) (.cst (.int 48271))) (.var 3)) (.cst (.int 11)))]) (.cst (.int 2147483647))),
    .ite (.cmp .ge (.var 3) (.bop .pow (.cst (.int 10)) (.cst (.int 18)))) [.sto 0 (.cst (.int 3)) (.bop .fdiv (.var 3) (.var 1))] [],
    .ret (.bop .mod (.blt .int [(.var 3)]) (.var 1))]
-- _law_notes: 7 slots, [True]
def m_law_notes : List MS := [.set 1 (.lst []),
    .fr (.one 2) (.rg2 (.cst (.int 1)) (.cst (.int 4))) [.ite (.cmp .eq (.cal "_law_taken" [(.var 0), (.cst (.int 3))]) (.cst (.int 0))) [.set 3 (.idx (.lst [(.cst (.str "go")), (.cst (.str "wait"))]) (.cal "_law_taken" [(.var 0), (.cst (.int 2))])), .set 4 (.bop .add (.cst (.int 1)) (.cal "_law_taken" [(.var 0), (.cst (.int 2))])), .ite (.cmp .eq (.var 3) (.cst (.str "go"))) [.set 4 (.cal "_law_taken" [(.var 0), (.cst (.int 5))])] [], .app 1 (.tup [(.var 2), (.var 3), (.var 4)])] []],
    .set 5 (.lc (.idx (.var 6) (.cst (.int 0))) (.one 6) (.seq (.var 1)) [] [("_law_note", 6)]),
    .ret (.blt .tuple [(.lc (.var 6) (.one 6) (.seq (.var 1)) [(.or (.cmp .eq (.idx (.var 6) (.cst (.int 1))) (.cst (.str "wait"))) (.cmp .nin (.idx (.var 6) (.cst (.int 2))) (.var 5)))] [("_law_note", 6)])])]
-- _law_drawn: 5 slots, [True]
def m_law_drawn : List MS := [.set 1 (.lst [(.tup [(.cst (.int 1)), (.cst (.int 1))]), (.tup [(.cst (.int 1)), (.cst (.int 2))]), (.tup [(.cst (.int 3)), (.cst (.int 1))]), (.tup [(.cst (.int 1)), (.cst (.int 1)), (.cst (.int 1))]), (.tup [(.cst (.int 2)), (.cst (.int 0)), (.cst (.int 1))]), (.tup [(.cst (.int 0)), (.cst (.int 1)), (.cst (.int 1))]), (.tup [(.cst (.int 1)), (.cst (.int 0)), (.cst (.int 0)), (.cst (.int 2))]), (.tup [(.cst (.int 1))]), (.tup [(.cst (.int 1)), (.cst (.int 2)), (.cst (.int 3))]), (.tup [(.cst (.int 5)), (.cst (.int 1))])]),
    .par [.nm 2, .nm 3] [(.idx (.var 1) (.cal "_law_taken" [(.var 0), (.cst (.int 10))])), (.idx (.lst [(.cst (.str "bounce")), (.cst (.str "done")), (.cst (.str "stay"))]) (.cal "_law_taken" [(.var 0), (.cst (.int 3))]))],
    .set 4 (.dic [((.cst (.str "die")), (.var 2)), ((.cst (.str "rule")), (.var 3)), ((.cst (.str "near")), (.cal "_law_notes" [(.var 0)])), ((.cst (.str "far")), (.cal "_law_notes" [(.var 0)]))]),
    .ite (.not (.cal "_law_ends" [(.var 4)])) [.par [.sb 4 (.cst (.str "near")), .sb 4 (.cst (.str "far"))] [(.tup []), (.tup [])]] [],
    .ite (.not (.cal "_law_ends" [(.var 4)])) [.sto 4 (.cst (.str "rule")) (.cst (.str "done"))] [],
    .ret (.var 4)]
-- _law_with: 5 slots, [False, False]
def m_law_with : List MS := [.set 2 (.blt .dict [(.var 0)]),
    .fr (.many [3, 4]) (.seq (.var 1)) [.sto 2 (.var 3) (.var 4)],
    .ret (.var 2)]
-- _law_most: 3 slots, [False]
def m_law_most : List MS := [.set 1 (.bop .add (.lst [(.cst (.int 0))]) (.lc (.idx (.var 2) (.cst (.int 0))) (.one 2) (.seq (.var 0)) [] [("_law_note", 2)])),
    .ret (.blt .max [(.bop .add (.var 1) (.lc (.idx (.var 2) (.cst (.int 2))) (.one 2) (.seq (.var 0)) [(.cmp .eq (.idx (.var 2) (.cst (.int 1))) (.cst (.str "go")))] [("_law_note", 2)]))])]
-- _law_least: 1 slots, [False]
def m_law_least : List MS := [.ret (.bop .add (.bop .add (.cal "_law_most" [(.idx (.var 0) (.cst (.str "near")))]) (.cal "_law_most" [(.idx (.var 0) (.cst (.str "far")))])) (.blt .len [(.idx (.var 0) (.cst (.str "die")))]))]
-- _law_spots: 5 slots, [False, False]
def m_law_spots : List MS := [.par [.nm 2, .nm 3] [(.dic []), (.dic [])],
    .fr (.one 4) (.seq (.idx (.var 0) (.cst (.str "near")))) [.ite (.cmp .eq (.idx (.var 4) (.cst (.int 1))) (.cst (.str "go"))) [.sto 2 (.idx (.var 4) (.cst (.int 0))) (.idx (.var 4) (.cst (.int 2)))] [.sto 3 (.idx (.var 4) (.cst (.int 0))) (.idx (.var 4) (.cst (.int 2)))]],
    .fr (.one 4) (.seq (.idx (.var 0) (.cst (.str "far")))) [.ite (.cmp .eq (.idx (.var 4) (.cst (.int 1))) (.cst (.str "go"))) [.sto 2 (.bop .sub (.var 1) (.idx (.var 4) (.cst (.int 0)))) (.bop .sub (.var 1) (.idx (.var 4) (.cst (.int 2))))] [.sto 3 (.bop .sub (.var 1) (.idx (.var 4) (.cst (.int 0)))) (.idx (.var 4) (.cst (.int 2)))]],
    .ret (.lst [(.var 2), (.var 3)])]
-- _law_next: 6 slots, [False, False, False, False, False]
def m_law_next : List MS := [.set 5 (.bop .add (.var 3) (.var 4)),
    .ite (.cmp .gt (.var 5) (.var 1)) [.ite (.cmp .eq (.idx (.var 0) (.cst (.str "rule"))) (.cst (.str "stay"))) [.ret (.lst [(.var 3), (.cst (.int 0))])] [], .set 5 (.ife (.cmp .eq (.idx (.var 0) (.cst (.str "rule"))) (.cst (.str "done"))) (.var 1) (.bop .sub (.bop .add (.var 1) (.var 1)) (.var 5)))] [],
    .set 5 (.bmt .get (.idx (.var 2) (.cst (.int 0))) [(.var 5), (.var 5)]),
    .ret (.lst [(.var 5), (.bmt .get (.idx (.var 2) (.cst (.int 1))) [(.var 5), (.cst (.int 0))])])]
-- _law_faces: 2 slots, [False]
def m_law_faces : List MS := [.ret (.lc (.bop .add (.var 1) (.cst (.int 1))) (.one 1) (.rg1 (.blt .len [(.idx (.var 0) (.cst (.str "die")))])) [(.cmp .gt (.idx (.idx (.var 0) (.cst (.str "die"))) (.var 1)) (.cst (.int 0)))] [("_law_k", 1)])]
-- _law_ends: 9 slots, [False]
def m_law_ends : List MS := [.set 1 (.cal "_law_least" [(.var 0)]),
    .set 2 (.cal "_law_spots" [(.var 0), (.var 1)]),
    .set 3 (.dic [((.var 1), (.cst (.bl true)))]),
    .fr (.one 4) (.rg1 (.var 1)) [.fr (.one 5) (.rg1 (.var 1)) [.set 6 (.lc (.idx (.cal "_law_next" [(.var 0), (.var 1), (.var 2), (.var 5), (.var 7)]) (.cst (.int 0))) (.one 7) (.seq (.cal "_law_faces" [(.var 0)])) [] [("_law_face", 7)]), .ite (.cmp .gt (.blt .len [(.lc (.var 8) (.one 8) (.seq (.var 6)) [(.cmp .inn (.var 8) (.var 3))] [("_law_one", 8)])]) (.cst (.int 0))) [.sto 3 (.var 5) (.cst (.bl true))] []]],
    .ret (.cmp .eq (.blt .len [(.lc (.var 5) (.one 5) (.rg1 (.var 1)) [(.and (.cmp .nin (.var 5) (.var 3)) (.cmp .nin (.var 5) (.idx (.var 2) (.cst (.int 0)))))] [("_law_place", 5)])]) (.cst (.int 0)))]
-- _law_made: 1 slots, [False]
def m_law_made : List MS := [.ret (.new "Race" [(.idx (.var 0) (.cst (.str "die"))), (.idx (.var 0) (.cst (.str "rule"))), (.idx (.var 0) (.cst (.str "near"))), (.idx (.var 0) (.cst (.str "far")))])]
-- _wall: 1 slots, [False]
def m_wall : List MS := [.whl (.cst (.bl true)) [.pas]]
-- _law_odd_notes: 1 slots, []
def m_law_odd_notes : List MS := [.set 0 (.lst [(.cst .non), (.lst []), (.cst (.int 0)), (.cst (.str "near")), (.tup [(.tup [(.cst (.int 0)), (.cst (.str "wait")), (.cst (.int 1))])]), (.tup [(.tup [(.cst (.int 7)), (.cst (.str "go")), (.cst (.int 1))])]), (.tup [(.tup [(.cst (.int 1)), (.cst (.str "wait")), (.cst (.int 0))])]), (.tup [(.tup [(.cst (.int 1)), (.cst (.str "wait")), (.cst (.int 4))])])]),
    .set 0 (.bop .add (.var 0) (.lst [(.tup [(.tup [(.cst (.int 1)), (.cst (.str "go")), (.cst (.int 1))])]), (.tup [(.tup [(.cst (.int 1)), (.cst (.str "go")), (.cst (.int 7))])]), (.tup [(.tup [(.cst (.int 2)), (.cst (.str "go")), (.cst (.int 0))]), (.tup [(.cst (.int 1)), (.cst (.str "go")), (.cst (.int 0))])]), (.tup [(.tup [(.cst (.int 1)), (.cst (.str "go")), (.cst (.int 2))]), (.tup [(.cst (.int 2)), (.cst (.str "wait")), (.cst (.int 1))])])])),
    .set 0 (.bop .add (.var 0) (.lst [(.tup [(.tup [(.cst (.int 1)), (.cst (.str "wait")), (.cst (.int 1))]), (.tup [(.cst (.int 1)), (.cst (.str "wait")), (.cst (.int 1))])]), (.tup [(.tup [(.cst (.int 1)), (.cst (.str "Go")), (.cst (.int 2))])]), (.tup [(.tup [(.cst (.int 1)), (.cst (.str "go"))])]), (.tup [(.cst .non)]), (.tup [(.lst [(.cst (.int 1)), (.cst (.str "go")), (.cst (.int 2))])])])),
    .ret (.bop .add (.var 0) (.lst [(.tup [(.tup [(.cst (.bl true)), (.cst (.str "wait")), (.cst (.int 1))])]), (.tup [(.tup [(.cst (.int 1)), (.cst (.str "go")), (.cst (.bl true))])]), (.tup [(.tup [(.cst (.int 1)), (.cst (.int 2)), (.cst (.str "go"))])]), (.tup [(.tup [(.cst (.int 1)), (.cst (.str "wait")), (.cst (.str "1"))])]), (.tup [(.cst (.int 1)), (.cst (.str "go")), (.cst (.int 2))])]))]
-- NoLength.__init__: 2 slots, [True, False]
def m_NoLength_init : List MS := [.pas,
    .fld 0 "n" (.var 1)]
-- added: 2 slots, [False, False]
def m_added : List MS := [.ret (.cal "fraction" [(.bop .add (.bop .mul (.idx (.var 0) (.cst (.int 0))) (.idx (.var 1) (.cst (.int 1)))) (.bop .mul (.idx (.var 1) (.cst (.int 0))) (.idx (.var 0) (.cst (.int 1))))), (.bop .mul (.idx (.var 0) (.cst (.int 1))) (.idx (.var 1) (.cst (.int 1))))])]
-- product: 2 slots, [False, False]
def m_product : List MS := [.ret (.cal "fraction" [(.bop .mul (.idx (.var 0) (.cst (.int 0))) (.idx (.var 1) (.cst (.int 0)))), (.bop .mul (.idx (.var 0) (.cst (.int 1))) (.idx (.var 1) (.cst (.int 1))))])]
-- less: 2 slots, [False, False]
def m_less : List MS := [.ret (.cal "fraction" [(.bop .sub (.bop .mul (.idx (.var 0) (.cst (.int 0))) (.idx (.var 1) (.cst (.int 1)))) (.bop .mul (.idx (.var 1) (.cst (.int 0))) (.idx (.var 0) (.cst (.int 1))))), (.bop .mul (.idx (.var 0) (.cst (.int 1))) (.idx (.var 1) (.cst (.int 1))))])]
-- over: 2 slots, [False, False]
def m_over : List MS := [.ret (.cal "fraction" [(.bop .mul (.idx (.var 0) (.cst (.int 0))) (.idx (.var 1) (.cst (.int 1)))), (.bop .mul (.idx (.var 0) (.cst (.int 1))) (.idx (.var 1) (.cst (.int 0))))])]
-- mixed: 5 slots, [False, False]
def m_mixed : List MS := [.set 2 (.tup [(.cst (.int 0)), (.cst (.int 1))]),
    .fr (.many [3, 4]) (.zip (.var 0) (.var 1)) [.set 2 (.cal "added" [(.var 2), (.cal "product" [(.var 3), (.var 4)])])],
    .ret (.var 2)]
-- solved: 11 slots, [False]
def m_solved : List MS := [.par [.nm 1, .nm 2] [(.lc (.blt .list [(.var 8)]) (.one 8) (.seq (.var 0)) [] [("row", 8)]), (.blt .len [(.var 0)])],
    .fr (.one 3) (.rg1 (.var 2)) [.set 4 (.idx (.lc (.var 6) (.one 6) (.rg2 (.var 3) (.var 2)) [(.cmp .ne (.idx (.idx (.idx (.var 1) (.var 6)) (.var 3)) (.cst (.int 0))) (.cst (.int 0)))] [("place", 6)]) (.cst (.int 0))), .par [.sb 1 (.var 3), .sb 1 (.var 4)] [(.idx (.var 1) (.var 4)), (.idx (.var 1) (.var 3))], .set 5 (.idx (.var 1) (.var 3)), .set 5 (.lc (.cal "over" [(.var 9), (.idx (.var 5) (.var 3))]) (.one 9) (.seq (.var 5)) [] [("one", 9)]), .sto 1 (.var 3) (.var 5), .fr (.one 6) (.rg1 (.var 2)) [.set 7 (.idx (.idx (.var 1) (.var 6)) (.var 3)), .ite (.and (.cmp .ne (.var 6) (.var 3)) (.cmp .ne (.idx (.var 7) (.cst (.int 0))) (.cst (.int 0)))) [.sto 1 (.var 6) (.lc (.cal "less" [(.var 9), (.cal "product" [(.var 7), (.var 10)])]) (.many [9, 10]) (.zip (.idx (.var 1) (.var 6)) (.var 5)) [] [("one", 9), ("two", 10)])] []]],
    .ret (.lc (.slc (.var 8) [(.var 2)] []) (.one 8) (.seq (.var 1)) [] [("row", 8)])]
-- standing: 4 slots, [False, False, False]
def m_standing : List MS := [.ret (.lc (.var 3) (.one 3) (.rg1 (.bop .add (.var 2) (.cst (.int 1)))) [(.cmp .nin (.var 3) (.idx (.att (.var 0) "goes") (.var 1)))] [("place", 3)])]
-- leads: 17 slots, [False]
def m_leads : List MS := [.par [.nm 1, .nm 2] [(.cal "near_size" [(.var 0)]), (.blt .len [(.att (.var 0) "shares")])],
    .par [.nm 3, .nm 4] [(.cal "standing" [(.var 0), (.cst (.int 0)), (.var 1)]), (.lst [])],
    .fr (.one 5) (.seq (.var 3)) [.set 6 (.lc (.ife (.cmp .eq (.var 15) (.var 5)) (.tup [(.cst (.int 1)), (.cst (.int 1))]) (.tup [(.cst (.int 0)), (.cst (.int 1))])) (.one 15) (.seq (.var 3)) [] [("other", 15)]), .par [.nm 7, .nm 8] [(.tup [(.cst (.int 1)), (.cst (.int 1))]), (.lc (.tup [(.cst (.int 0)), (.cst (.int 1))]) (.one 16) (.seq (.att (.var 0) "chances")) [] [("face", 16)])], .fr (.many [9, 10]) (.enu (.att (.var 0) "chances")) [.set 11 (.cal "near_behind" [(.var 0), (.var 5), (.bop .add (.var 9) (.cst (.int 1)))]), .ite (.cmp .gt (.var 11) (.var 1)) [.sto 8 (.bop .sub (.bop .sub (.var 11) (.var 1)) (.cst (.int 1))) (.cal "added" [(.idx (.var 8) (.bop .sub (.bop .sub (.var 11) (.var 1)) (.cst (.int 1)))), (.var 10)])] [.set 12 (.bmt .index (.var 3) [(.var 11)]), .sto 6 (.var 12) (.cal "added" [(.idx (.var 6) (.var 12)), (.cal "fraction" [(.neg (.idx (.var 10) (.cst (.int 0)))), (.idx (.var 10) (.cst (.int 1)))])]), .set 13 (.bmt .get (.idx (.att (.var 0) "pauses") (.cst (.int 0))) [(.var 11), (.cst (.int 0))]), .set 7 (.cal "added" [(.var 7), (.cal "fraction" [(.bop .mul (.idx (.var 10) (.cst (.int 0))) (.var 13)), (.idx (.var 10) (.cst (.int 1)))])])]], .app 4 (.bop .add (.bop .add (.var 6) (.lst [(.var 7)])) (.var 8))],
    .set 14 (.cal "solved" [(.var 4)]),
    .ret (.dc (.var 5) (.tup [(.idx (.idx (.var 14) (.var 12)) (.cst (.int 0))), (.blt .tuple [(.slc (.idx (.var 14) (.var 12)) [(.cst (.int 1))] [(.bop .add (.var 2) (.cst (.int 1)))])])]) (.many [12, 5]) (.enu (.var 3)) [] [("spot", 12), ("place", 5)])]
-- standing_means: 14 slots, [False]
def m_standing_means : List MS := [.set 1 (.slc (.cal "standing" [(.var 0), (.cst (.int 1)), (.cal "far_size" [(.var 0)])]) [(.cst (.int 1))] []),
    .set 2 (.lst []),
    .fr (.one 3) (.seq (.var 1)) [.set 4 (.lc (.ife (.cmp .eq (.var 13) (.var 3)) (.tup [(.cst (.int 1)), (.cst (.int 1))]) (.tup [(.cst (.int 0)), (.cst (.int 1))])) (.one 13) (.seq (.var 1)) [] [("other", 13)]), .set 5 (.tup [(.cst (.int 1)), (.cst (.int 1))]), .fr (.many [6, 7]) (.enu (.att (.var 0) "chances")) [.set 8 (.cal "far_behind" [(.var 0), (.var 3), (.bop .add (.var 6) (.cst (.int 1)))]), .ite (.cmp .ne (.var 8) (.cst (.int 0))) [.set 9 (.bmt .index (.var 1) [(.ife (.cmp .is (.var 8) (.cst .non)) (.var 3) (.var 8))]), .sto 4 (.var 9) (.cal "added" [(.idx (.var 4) (.var 9)), (.cal "fraction" [(.neg (.idx (.var 7) (.cst (.int 0)))), (.idx (.var 7) (.cst (.int 1)))])]), .set 10 (.ife (.cmp .is (.var 8) (.cst .non)) (.cst (.int 0)) (.bmt .get (.idx (.att (.var 0) "pauses") (.cst (.int 1))) [(.var 8), (.cst (.int 0))])), .set 5 (.cal "added" [(.var 5), (.cal "fraction" [(.bop .mul (.idx (.var 7) (.cst (.int 0))) (.var 10)), (.idx (.var 7) (.cst (.int 1)))])])] []], .app 2 (.bop .add (.var 4) (.lst [(.var 5)]))],
    .set 11 (.cal "solved" [(.var 2)]),
    .set 12 (.dc (.var 3) (.idx (.idx (.var 11) (.var 9)) (.cst (.int 0))) (.many [9, 3]) (.enu (.var 1)) [] [("spot", 9), ("place", 3)]),
    .sto 12 (.cst (.int 0)) (.tup [(.cst (.int 0)), (.cst (.int 1))]),
    .ret (.var 12)]
-- first_values: 5 slots, [False]
def m_first_values : List MS := [.par [.nm 1, .nm 2] [(.cal "standing_means" [(.var 0)]), (.lst [])],
    .fr (.one 3) (.rg1 (.bop .add (.cal "far_size" [(.var 0)]) (.cst (.int 1)))) [.set 4 (.bmt .get (.idx (.att (.var 0) "goes") (.cst (.int 1))) [(.var 3), (.var 3)]), .app 2 (.cal "added" [(.idx (.var 1) (.var 4)), (.tup [(.bmt .get (.idx (.att (.var 0) "pauses") (.cst (.int 1))) [(.var 4), (.cst (.int 0))]), (.cst (.int 1))])])],
    .ret (.var 2)]
-- need_length: 2 slots, [False, False]
def m_need_length : List MS := [.ite (.or (.not (.cal "is_whole" [(.var 1)])) (.cmp .lt (.var 1) (.att (.var 0) "least_length"))) [.rai "NoLength" [(.var 1)]] []]
-- lead: 1 slots, [False]
def m_lead : List MS := [.ret (.idx (.cal "leads" [(.var 0)]) (.cst (.int 0)))]
-- mean_by: 8 slots, [False, False, False, False, False]
def m_mean_by : List MS := [.set 5 (.bop .sub (.bop .sub (.var 1) (.cal "near_size" [(.var 0)])) (.cst (.int 1))),
    .ret (.cal "added" [(.var 2), (.cal "mixed" [(.var 3), (.lc (.idx (.var 4) (.bop .sub (.var 5) (.var 6))) (.many [6, 7]) (.enu (.var 3)) [] [("at", 6), ("share", 7)])])])]
-- means_to: 7 slots, [False, False, False]
def m_means_to : List MS := [.unp [3, 4] (.cal "lead" [(.var 0)]),
    .set 5 (.cal "values_to" [(.var 0), (.var 2)]),
    .ret (.lc (.cal "mean_by" [(.var 0), (.var 6), (.var 3), (.var 4), (.var 5)]) (.one 6) (.rg2 (.var 1) (.bop .add (.var 2) (.cst (.int 1)))) [] [("n", 6)])]
-- mean: 2 slots, [False, False]
def m_mean : List MS := [.exp (.cal "need_length" [(.var 0), (.var 1)]),
    .ret (.idx (.cal "means_to" [(.var 0), (.var 1), (.var 1)]) (.cst (.int 0)))]
-- means: 3 slots, [False, False, False]
def m_means : List MS := [.exp (.cal "need_length" [(.var 0), (.var 1)]),
    .ret (.cal "means_to" [(.var 0), (.var 1), (.var 2)])]
-- _law_frac: 4 slots, [False, False]
def m_law_frac : List MS := [.ite (.cmp .lt (.var 1) (.cst (.int 0))) [.par [.nm 0, .nm 1] [(.bop .sub (.cst (.int 0)) (.var 0)), (.bop .sub (.cst (.int 0)) (.var 1))]] [],
    .par [.nm 2, .nm 3] [(.blt .abs [(.var 0)]), (.var 1)],
    .whl (.cmp .gt (.var 3) (.cst (.int 0))) [.par [.nm 2, .nm 3] [(.var 3), (.bop .mod (.var 2) (.var 3))]],
    .ret (.tup [(.bop .fdiv (.var 0) (.var 2)), (.bop .fdiv (.var 1) (.var 2))])]
-- _law_sum: 2 slots, [False, False]
def m_law_sum : List MS := [.ret (.cal "_law_frac" [(.bop .add (.bop .mul (.idx (.var 0) (.cst (.int 0))) (.idx (.var 1) (.cst (.int 1)))) (.bop .mul (.idx (.var 1) (.cst (.int 0))) (.idx (.var 0) (.cst (.int 1))))), (.bop .mul (.idx (.var 0) (.cst (.int 1))) (.idx (.var 1) (.cst (.int 1))))])]
-- _law_less: 2 slots, [False, False]
def m_law_less : List MS := [.ret (.cal "_law_sum" [(.var 0), (.tup [(.bop .sub (.cst (.int 0)) (.idx (.var 1) (.cst (.int 0)))), (.idx (.var 1) (.cst (.int 1)))])])]
-- _law_times: 2 slots, [False, False]
def m_law_times : List MS := [.ret (.cal "_law_frac" [(.bop .mul (.idx (.var 0) (.cst (.int 0))) (.idx (.var 1) (.cst (.int 0)))), (.bop .mul (.idx (.var 0) (.cst (.int 1))) (.idx (.var 1) (.cst (.int 1))))])]
-- _law_word: 1 slots, [False]
def m_law_word : List MS := [.ret (.ife (.cmp .eq (.idx (.var 0) (.cst (.int 0))) (.cst (.int 0))) (.cst (.str "like")) (.idx (.lst [(.cst (.str "less")), (.cst (.str "more"))]) (.blt .int [(.cmp .gt (.idx (.var 0) (.cst (.int 0))) (.cst (.int 0)))])))]
-- _law_plainer: 4 slots, [False]
def m_law_plainer : List MS := [.set 1 (.cst (.int 0)),
    .fr (.one 2) (.seq (.var 0)) [.set 3 (.blt .abs [(.var 2)]), .whl (.cmp .gt (.var 3) (.cst (.int 0))) [.par [.nm 1, .nm 3] [(.var 3), (.bop .mod (.var 1) (.var 3))]]],
    .ret (.lc (.bop .fdiv (.var 2) (.blt .max [(.cst (.int 1)), (.var 1)])) (.one 2) (.seq (.var 0)) [] [("_law_number", 2)])]
-- _law_solved: 12 slots, [False, False]
def m_law_solved : List MS := [.set 2 (.lc (.blt .list [(.var 7)]) (.one 7) (.seq (.var 0)) [] [("_law_line", 7)]),
    .fr (.one 3) (.rg1 (.var 1)) [.set 4 (.var 3), .whl (.cmp .eq (.idx (.idx (.var 2) (.var 4)) (.var 3)) (.cst (.int 0))) [.set 4 (.bop .add (.var 4) (.cst (.int 1)))], .set 5 (.idx (.var 2) (.var 4)), .sto 2 (.var 4) (.idx (.var 2) (.var 3)), .sto 2 (.var 3) (.var 5), .fr (.one 6) (.rg1 (.var 1)) [.ite (.and (.cmp .ne (.var 6) (.var 3)) (.cmp .ne (.idx (.idx (.var 2) (.var 6)) (.var 3)) (.cst (.int 0)))) [.par [.nm 7, .nm 8, .nm 9] [(.idx (.var 2) (.var 6)), (.idx (.var 5) (.var 3)), (.idx (.idx (.var 2) (.var 6)) (.var 3))], .sto 2 (.var 6) (.cal "_law_plainer" [(.lc (.bop .sub (.bop .mul (.idx (.var 7) (.var 10)) (.var 8)) (.bop .mul (.idx (.var 5) (.var 10)) (.var 9))) (.one 10) (.rg1 (.blt .len [(.var 7)])) [] [("_law_j", 10)])])] []]],
    .ret (.lc (.lc (.cal "_law_frac" [(.var 11), (.idx (.idx (.var 2) (.var 3)) (.var 3))]) (.one 11) (.seq (.slc (.idx (.var 2) (.var 3)) [(.var 1)] [])) [] [("_law_number", 11)]) (.one 3) (.rg1 (.var 1)) [] [("_law_k", 3)])]
-- _law_all_means: 15 slots, [False, False]
def m_law_all_means : List MS := [.set 2 (.cal "_law_spots" [(.var 0), (.var 1)]),
    .set 3 (.lc (.var 6) (.one 6) (.rg1 (.var 1)) [(.cmp .nin (.var 6) (.idx (.var 2) (.cst (.int 0))))] [("_law_place", 6)]),
    .par [.nm 4, .nm 5] [(.lst []), (.blt .sum [(.idx (.var 0) (.cst (.str "die")))])],
    .fr (.one 6) (.seq (.var 3)) [.set 7 (.bop .mul (.lst [(.cst (.int 0))]) (.bop .add (.blt .len [(.var 3)]) (.cst (.int 1)))), .sto 7 (.bmt .index (.var 3) [(.var 6)]) (.var 5), .sto 7 (.neg (.cst (.int 1))) (.var 5), .fr (.one 8) (.seq (.cal "_law_faces" [(.var 0)])) [.unp [9, 10] (.cal "_law_next" [(.var 0), (.var 1), (.var 2), (.var 6), (.var 8)]), .set 11 (.idx (.idx (.var 0) (.cst (.str "die"))) (.bop .sub (.var 8) (.cst (.int 1)))), .sto 7 (.neg (.cst (.int 1))) (.bop .add (.idx (.var 7) (.neg (.cst (.int 1)))) (.bop .mul (.var 11) (.var 10))), .ite (.cmp .lt (.var 9) (.var 1)) [.sto 7 (.bmt .index (.var 3) [(.var 9)]) (.bop .sub (.idx (.var 7) (.bmt .index (.var 3) [(.var 9)])) (.var 11))] []], .app 4 (.var 7)],
    .set 12 (.cal "_law_solved" [(.var 4), (.blt .len [(.var 3)])]),
    .set 13 (.dic [((.var 1), (.tup [(.cst (.int 0)), (.cst (.int 1))]))]),
    .fr (.one 14) (.rg1 (.blt .len [(.var 3)])) [.sto 13 (.idx (.var 3) (.var 14)) (.idx (.idx (.var 12) (.var 14)) (.cst (.int 0)))],
    .ret (.var 13)]
-- NoPlace.__init__: 2 slots, [True, False]
def m_NoPlace_init : List MS := [.pas,
    .fld 0 "at" (.var 1)]
-- left: 7 slots, [False, False, False]
def m_left : List MS := [.exp (.cal "need_length" [(.var 0), (.var 1)]),
    .ite (.or (.not (.cal "is_within" [(.var 2), (.cst (.int 0)), (.var 1)])) (.or (.cmp .inn (.var 2) (.idx (.att (.var 0) "goes") (.cst (.int 0)))) (.cmp .inn (.bop .sub (.var 1) (.var 2)) (.idx (.att (.var 0) "goes") (.cst (.int 1)))))) [.rai "NoPlace" [(.var 2)]] [],
    .set 3 (.cal "values_to" [(.var 0), (.var 1)]),
    .ite (.cmp .le (.var 2) (.cal "near_size" [(.var 0)])) [.unp [4, 5] (.idx (.cal "leads" [(.var 0)]) (.var 2)), .ret (.cal "mean_by" [(.var 0), (.var 1), (.var 4), (.var 5), (.var 3)])] [],
    .set 6 (.bop .sub (.var 1) (.var 2)),
    .ret (.ife (.cmp .le (.var 6) (.cal "far_size" [(.var 0)])) (.idx (.cal "standing_means" [(.var 0)]) (.var 6)) (.idx (.var 3) (.var 6)))]
-- behind: 6 slots, [False, False, False, False]
def m_behind : List MS := [.ite (.cmp .le (.bop .add (.var 2) (.var 3)) (.cal "near_size" [(.var 0)])) [.set 4 (.cal "near_behind" [(.var 0), (.var 2), (.var 3)]), .ret (.tup [(.var 4), (.bmt .get (.idx (.att (.var 0) "pauses") (.cst (.int 0))) [(.var 4), (.cst (.int 0))])])] [],
    .set 5 (.cal "far_behind" [(.var 0), (.bop .sub (.var 1) (.var 2)), (.var 3)]),
    .ite (.cmp .is (.var 5) (.cst .non)) [.ret (.tup [(.var 2), (.cst (.int 0))])] [],
    .ret (.tup [(.bop .sub (.var 1) (.var 5)), (.bmt .get (.idx (.att (.var 0) "pauses") (.cst (.int 1))) [(.var 5), (.cst (.int 0))])])]
-- _law_counts: 13 slots, [False, False, False]
def m_law_counts : List MS := [.par [.nm 3, .nm 4] [(.cal "_law_spots" [(.var 0), (.var 1)]), (.blt .sum [(.idx (.var 0) (.cst (.str "die")))])],
    .set 5 (.dic [((.tup [(.cst (.int 0)), (.cst (.int 0))]), (.cst (.int 1)))]),
    .fr (.one 6) (.rg1 (.var 2)) [.set 7 (.dic []), .fr (.many [8, 9]) (.seq (.blt .list [(.var 5)])) [.set 10 (.idx (.var 5) (.tup [(.var 8), (.var 9)])), .ite (.or (.cmp .eq (.var 8) (.var 1)) (.cmp .gt (.var 9) (.cst (.int 0)))) [.set 11 (.tup [(.var 8), (.blt .max [(.cst (.int 0)), (.bop .sub (.var 9) (.cst (.int 1)))])]), .sto 7 (.var 11) (.bop .add (.bmt .get (.var 7) [(.var 11), (.cst (.int 0))]) (.bop .mul (.var 10) (.var 4)))] [.fr (.one 12) (.seq (.cal "_law_faces" [(.var 0)])) [.set 11 (.blt .tuple [(.cal "_law_next" [(.var 0), (.var 1), (.var 3), (.var 8), (.var 12)])]), .sto 7 (.var 11) (.bop .add (.bmt .get (.var 7) [(.var 11), (.cst (.int 0))]) (.bop .mul (.var 10) (.idx (.idx (.var 0) (.cst (.str "die"))) (.bop .sub (.var 12) (.cst (.int 1))))))]]], .set 5 (.var 7)],
    .ret (.bmt .get (.var 5) [(.tup [(.var 1), (.cst (.int 0))]), (.cst (.int 0))])]
-- ends: 1 slots, [False]
def m_ends : List MS := [.ret (.blt .tuple [(.slc (.cal "values_to" [(.var 0), (.cal "far_size" [(.var 0)])]) [] [(.bop .add (.cal "far_size" [(.var 0)]) (.cst (.int 1)))])])]
-- _law_lead: 16 slots, [False]
def m_law_lead : List MS := [.par [.nm 1, .nm 2, .nm 3] [(.cal "_law_most" [(.idx (.var 0) (.cst (.str "near")))]), (.blt .len [(.idx (.var 0) (.cst (.str "die")))]), (.blt .sum [(.idx (.var 0) (.cst (.str "die")))])],
    .set 4 (.bop .add (.cal "_law_least" [(.var 0)]) (.var 2)),
    .set 5 (.cal "_law_spots" [(.var 0), (.var 4)]),
    .set 6 (.lc (.var 8) (.one 8) (.rg1 (.bop .add (.var 1) (.cst (.int 1)))) [(.cmp .nin (.var 8) (.idx (.var 5) (.cst (.int 0))))] [("_law_place", 8)]),
    .set 7 (.lst []),
    .fr (.one 8) (.seq (.var 6)) [.set 9 (.bop .mul (.lst [(.cst (.int 0))]) (.bop .add (.bop .add (.blt .len [(.var 6)]) (.cst (.int 1))) (.var 2))), .sto 9 (.bmt .index (.var 6) [(.var 8)]) (.var 3), .sto 9 (.blt .len [(.var 6)]) (.var 3), .fr (.one 10) (.seq (.cal "_law_faces" [(.var 0)])) [.set 11 (.idx (.idx (.var 0) (.cst (.str "die"))) (.bop .sub (.var 10) (.cst (.int 1)))), .ite (.cmp .gt (.bop .add (.var 8) (.var 10)) (.var 1)) [.set 12 (.bop .sub (.bop .add (.bop .add (.blt .len [(.var 6)]) (.var 8)) (.var 10)) (.var 1)), .sto 9 (.var 12) (.bop .add (.idx (.var 9) (.var 12)) (.var 11))] [.unp [13, 14] (.cal "_law_next" [(.var 0), (.var 4), (.var 5), (.var 8), (.var 10)]), .ite (.cmp .gt (.var 13) (.var 1)) [.ret (.cst .non)] [], .sto 9 (.bmt .index (.var 6) [(.var 13)]) (.bop .sub (.idx (.var 9) (.bmt .index (.var 6) [(.var 13)])) (.var 11)), .sto 9 (.blt .len [(.var 6)]) (.bop .add (.idx (.var 9) (.blt .len [(.var 6)])) (.bop .mul (.var 11) (.var 14)))]], .app 7 (.var 9)],
    .set 15 (.idx (.cal "_law_solved" [(.var 7), (.blt .len [(.var 6)])]) (.cst (.int 0))),
    .ret (.tup [(.idx (.var 15) (.cst (.int 0))), (.blt .tuple [(.slc (.var 15) [(.cst (.int 1))] [])])])]
-- _law_ends_due: 7 slots, [False]
def m_law_ends_due : List MS := [.set 1 (.bop .add (.cal "_law_least" [(.var 0)]) (.blt .len [(.idx (.var 0) (.cst (.str "die")))])),
    .par [.nm 2, .nm 3, .nm 4] [(.cal "_law_all_means" [(.var 0), (.var 1)]), (.cal "_law_spots" [(.var 0), (.var 1)]), (.lst [])],
    .fr (.one 5) (.rg1 (.bop .add (.blt .max [(.cal "_law_most" [(.idx (.var 0) (.cst (.str "far")))]), (.bop .sub (.blt .len [(.idx (.var 0) (.cst (.str "die")))]) (.cst (.int 1)))]) (.cst (.int 1)))) [.set 6 (.bmt .get (.idx (.var 3) (.cst (.int 0))) [(.bop .sub (.var 1) (.var 5)), (.bop .sub (.var 1) (.var 5))]), .app 4 (.cal "_law_sum" [(.idx (.var 2) (.var 6)), (.tup [(.bmt .get (.idx (.var 3) (.cst (.int 1))) [(.var 6), (.cst (.int 0))]), (.cst (.int 1))])])],
    .ret (.blt .tuple [(.var 4)])]
-- die_mean: 3 slots, [False]
def m_die_mean : List MS := [.ret (.cal "fraction" [(.blt .sum [(.lc (.bop .mul (.bop .add (.var 1) (.cst (.int 1))) (.var 2)) (.many [1, 2]) (.enu (.att (.var 0) "shares")) [] [("at", 1), ("share", 2)])]), (.blt .sum [(.att (.var 0) "shares")])])]
-- held_from: 2 slots, [False]
def m_held_from : List MS := [.set 1 (.blt .len [(.att (.var 0) "shares")]),
    .ret (.blt .max [(.lst [(.bop .add (.bop .add (.bop .add (.cal "near_size" [(.var 0)]) (.cal "far_size" [(.var 0)])) (.var 1)) (.cst (.int 1))), (.bop .add (.att (.var 0) "least_length") (.var 1))])])]
-- first_window: 1 slots, [False]
def m_first_window : List MS := [.ret (.bop .sub (.cal "held_from" [(.var 0)]) (.blt .len [(.att (.var 0) "shares")]))]
-- offset: 2 slots, [False, False]
def m_offset : List MS := [.ret (.cal "less" [(.cal "mean" [(.var 0), (.var 1)]), (.cal "over" [(.tup [(.var 1), (.cst (.int 1))]), (.cal "die_mean" [(.var 0)])])])]
-- window_at: 6 slots, [False, False]
def m_window_at : List MS := [.par [.nm 2, .nm 3] [(.cal "means_to" [(.var 0), (.var 1), (.bop .sub (.bop .add (.var 1) (.blt .len [(.att (.var 0) "shares")])) (.cst (.int 1)))]), (.cal "die_mean" [(.var 0)])],
    .ret (.blt .tuple [(.lc (.cal "less" [(.var 5), (.cal "over" [(.tup [(.bop .add (.var 1) (.var 4)), (.cst (.int 1))]), (.var 3)])]) (.many [4, 5]) (.enu (.var 2)) [] [("at", 4), ("one", 5)])])]
-- window: 2 slots, [False, False]
def m_window : List MS := [.ite (.or (.not (.cal "is_whole" [(.var 1)])) (.cmp .lt (.var 1) (.cal "first_window" [(.var 0)]))) [.rai "NoLength" [(.var 1)]] [],
    .ret (.cal "window_at" [(.var 0), (.var 1)])]
-- kept_sum: 6 slots, [False, False]
def m_kept_sum : List MS := [.par [.nm 2, .nm 3] [(.tup [(.cst (.int 0)), (.cst (.int 1))]), (.tup [(.cst (.int 1)), (.cst (.int 1))])],
    .fr (.many [4, 5]) (.enu (.rev (.var 1))) [.set 2 (.cal "added" [(.var 2), (.cal "product" [(.var 3), (.var 5)])]), .set 3 (.cal "less" [(.var 3), (.idx (.att (.var 0) "chances") (.var 4))])],
    .ret (.var 2)]
-- limit: 1 slots, [False]
def m_limit : List MS := [.ret (.cal "over" [(.cal "kept_sum" [(.var 0), (.cal "window_at" [(.var 0), (.cal "first_window" [(.var 0)])])]), (.cal "die_mean" [(.var 0)])])]
-- _law_held: 2 slots, [False]
def m_law_held : List MS := [.set 1 (.blt .len [(.idx (.var 0) (.cst (.str "die")))]),
    .ret (.blt .max [(.bop .add (.bop .add (.bop .add (.cal "_law_most" [(.idx (.var 0) (.cst (.str "near")))]) (.blt .max [(.cal "_law_most" [(.idx (.var 0) (.cst (.str "far")))]), (.bop .sub (.var 1) (.cst (.int 1)))])) (.var 1)) (.cst (.int 1))), (.bop .add (.cal "_law_least" [(.var 0)]) (.var 1))])]
-- _law_die_mean: 2 slots, [False]
def m_law_die_mean : List MS := [.ret (.cal "_law_frac" [(.blt .sum [(.lc (.bop .mul (.bop .add (.var 1) (.cst (.int 1))) (.idx (.idx (.var 0) (.cst (.str "die"))) (.var 1))) (.one 1) (.rg1 (.blt .len [(.idx (.var 0) (.cst (.str "die")))])) [] [("_law_k", 1)])]), (.blt .sum [(.idx (.var 0) (.cst (.str "die")))])])]
-- _law_kept: 5 slots, [False, False]
def m_law_kept : List MS := [.par [.nm 2, .nm 3] [(.tup [(.cst (.int 0)), (.cst (.int 1))]), (.blt .sum [(.idx (.var 0) (.cst (.str "die")))])],
    .fr (.one 4) (.rg1 (.blt .len [(.var 1)])) [.set 2 (.cal "_law_sum" [(.var 2), (.cal "_law_times" [(.idx (.var 1) (.bop .sub (.bop .sub (.blt .len [(.var 1)]) (.cst (.int 1))) (.var 4))), (.cal "_law_frac" [(.var 3), (.blt .sum [(.idx (.var 0) (.cst (.str "die")))])])])]), .set 3 (.bop .sub (.var 3) (.idx (.idx (.var 0) (.cst (.str "die"))) (.var 4)))],
    .ret (.var 2)]
-- _law_mixed: 4 slots, [False, False]
def m_law_mixed : List MS := [.set 2 (.tup [(.cst (.int 0)), (.cst (.int 1))]),
    .fr (.one 3) (.rg1 (.blt .len [(.idx (.var 0) (.cst (.str "die")))])) [.set 2 (.cal "_law_sum" [(.var 2), (.cal "_law_times" [(.idx (.var 1) (.bop .sub (.bop .sub (.blt .len [(.var 1)]) (.cst (.int 1))) (.var 3))), (.cal "_law_frac" [(.idx (.idx (.var 0) (.cst (.str "die"))) (.var 3)), (.blt .sum [(.idx (.var 0) (.cst (.str "die")))])])])])],
    .ret (.var 2)]
-- _law_offsets: 6 slots, [False, False, False]
def m_law_offsets : List MS := [.par [.nm 3, .nm 4] [(.cal "_law_die_mean" [(.var 0)]), (.lst [])],
    .fr (.one 5) (.rg1 (.blt .len [(.var 1)])) [.app 4 (.cal "_law_less" [(.idx (.var 1) (.var 5)), (.cal "_law_frac" [(.bop .mul (.bop .add (.var 2) (.var 5)) (.idx (.var 3) (.cst (.int 1)))), (.idx (.var 3) (.cst (.int 0)))])])],
    .ret (.var 4)]
-- Undecided.__init__: 1 slots, [True]
def m_Undecided_init : List MS := [.pas]
-- is_less: 2 slots, [False, False]
def m_is_less : List MS := [.ret (.cmp .lt (.bop .mul (.idx (.var 0) (.cst (.int 0))) (.idx (.var 1) (.cst (.int 1)))) (.bop .mul (.idx (.var 1) (.cst (.int 0))) (.idx (.var 0) (.cst (.int 1)))))]
-- least_of: 3 slots, [False]
def m_least_of : List MS := [.set 1 (.idx (.var 0) (.cst (.int 0))),
    .fr (.one 2) (.seq (.var 0)) [.ite (.cal "is_less" [(.var 2), (.var 1)]) [.set 1 (.var 2)] []],
    .ret (.var 1)]
-- greatest_of: 3 slots, [False]
def m_greatest_of : List MS := [.set 1 (.idx (.var 0) (.cst (.int 0))),
    .fr (.one 2) (.seq (.var 0)) [.ite (.cal "is_less" [(.var 1), (.var 2)]) [.set 1 (.var 2)] []],
    .ret (.var 1)]
-- are_alike_dice: 2 slots, [False, False]
def m_are_alike_dice : List MS := [.ret (.cmp .eq (.att (.var 0) "chances") (.att (.var 1) "chances"))]
-- word_of: 1 slots, [False]
def m_word_of : List MS := [.ite (.cmp .eq (.idx (.var 0) (.cst (.int 0))) (.cst (.int 0))) [.ret (.glb "LIKE")] [],
    .ret (.ife (.cmp .lt (.idx (.var 0) (.cst (.int 0))) (.cst (.int 0))) (.glb "LESS") (.glb "MORE"))]
-- apart: 6 slots, [False, False, False, False]
def m_apart : List MS := [.ret (.lc (.cal "less" [(.var 4), (.var 5)]) (.many [4, 5]) (.zip (.cal "means_to" [(.var 0), (.var 2), (.var 3)]) (.cal "means_to" [(.var 1), (.var 2), (.var 3)])) [] [("left", 4), ("right", 5)])]
-- common_least: 2 slots, [False, False]
def m_common_least : List MS := [.ret (.blt .max [(.lst [(.att (.var 0) "least_length"), (.att (.var 1) "least_length")])])]
-- common_window: 2 slots, [False, False]
def m_common_window : List MS := [.ret (.blt .max [(.lst [(.cal "first_window" [(.var 0)]), (.cal "first_window" [(.var 1)])])])]
-- one_word: 4 slots, [False]
def m_one_word : List MS := [.set 1 (.lc (.cal "word_of" [(.var 2)]) (.one 2) (.seq (.var 0)) [] [("number", 2)]),
    .ret (.ife (.blt .all [(.lc (.cmp .eq (.var 3) (.idx (.var 1) (.cst (.int 0)))) (.one 3) (.seq (.var 1)) [] [("word", 3)])]) (.idx (.var 1) (.cst (.int 0))) (.cst .non))]
-- settled: 4 slots, [False, False]
def m_settled : List MS := [.ite (.and (.cmp .is (.cal "one_word" [(.var 1)]) (.cst .non)) (.cmp .eq (.idx (.cal "kept_sum" [(.var 0), (.var 1)]) (.cst (.int 0))) (.cst (.int 0)))) [.ret (.tup [(.glb "MIXED"), (.cst (.int 0)), (.var 1)])] [],
    .par [.nm 2, .nm 3] [(.blt .len [(.var 1)]), (.cst (.int 0))],
    .whl (.cmp .is (.cal "one_word" [(.var 1)]) (.cst .non)) [.set 1 (.bop .add (.slc (.var 1) [(.cst (.int 1))] []) (.lst [(.cal "mixed" [(.att (.var 0) "chances"), (.rev (.var 1))])])), .aug 3 .add (.cst (.int 1))],
    .ret (.tup [(.cal "one_word" [(.var 1)]), (.var 3), (.slc (.var 1) [] [(.var 2)])])]
-- paper_of: 7 slots, [False, False]
def m_paper_of : List MS := [.par [.nm 2, .nm 3] [(.cal "common_window" [(.var 0), (.var 1)]), (.blt .len [(.att (.var 0) "shares")])],
    .unp [4, 5, 6] (.cal "settled" [(.var 0), (.cal "apart" [(.var 0), (.var 1), (.var 2), (.bop .sub (.bop .add (.var 2) (.var 3)) (.cst (.int 1)))])]),
    .ret (.tup [(.var 4), (.bop .add (.var 2) (.var 5)), (.blt .tuple [(.var 6)])])]
-- slope_of: 2 slots, [False, False]
def m_slope_of : List MS := [.ret (.cal "less" [(.cal "over" [(.tup [(.cst (.int 1)), (.cst (.int 1))]), (.cal "die_mean" [(.var 0)])]), (.cal "over" [(.tup [(.cst (.int 1)), (.cst (.int 1))]), (.cal "die_mean" [(.var 1)])])])]
-- bounds_of: 5 slots, [False, False, False]
def m_bounds_of : List MS := [.par [.nm 3, .nm 4] [(.cal "window_at" [(.var 0), (.var 2)]), (.cal "window_at" [(.var 1), (.var 2)])],
    .ret (.tup [(.cal "less" [(.cal "least_of" [(.var 3)]), (.cal "greatest_of" [(.var 4)])]), (.cal "less" [(.cal "greatest_of" [(.var 3)]), (.cal "least_of" [(.var 4)])])])]
-- beyond: 3 slots, [False, False]
def m_beyond : List MS := [.set 2 (.cal "over" [(.var 0), (.var 1)]),
    .ret (.bop .add (.bop .fdiv (.idx (.var 2) (.cst (.int 0))) (.idx (.var 2) (.cst (.int 1)))) (.cst (.int 1)))]
-- word_unlike: 6 slots, [False, False]
def m_word_unlike : List MS := [.par [.nm 2, .nm 3] [(.cal "common_window" [(.var 0), (.var 1)]), (.cal "slope_of" [(.var 0), (.var 1)])],
    .ite (.and (.cmp .eq (.idx (.var 3) (.cst (.int 0))) (.cst (.int 0))) (.cmp .eq (.cal "limit" [(.var 0)]) (.cal "limit" [(.var 1)]))) [.rai "Undecided" []] [],
    .unp [4, 5] (.cal "bounds_of" [(.var 0), (.var 1), (.var 2)]),
    .ite (.cmp .gt (.idx (.var 3) (.cst (.int 0))) (.cst (.int 0))) [.ret (.tup [(.glb "MORE"), (.blt .max [(.lst [(.var 2), (.cal "beyond" [(.cal "less" [(.tup [(.cst (.int 0)), (.cst (.int 1))]), (.var 4)]), (.var 3)])])])])] [],
    .ite (.cmp .lt (.idx (.var 3) (.cst (.int 0))) (.cst (.int 0))) [.ret (.tup [(.glb "LESS"), (.blt .max [(.lst [(.var 2), (.cal "beyond" [(.cal "less" [(.tup [(.cst (.int 0)), (.cst (.int 1))]), (.var 5)]), (.var 3)])])])])] [],
    .whl (.and (.cmp .le (.idx (.var 4) (.cst (.int 0))) (.cst (.int 0))) (.cmp .ge (.idx (.var 5) (.cst (.int 0))) (.cst (.int 0)))) [.aug 2 .add (.cst (.int 1)), .unp [4, 5] (.cal "bounds_of" [(.var 0), (.var 1), (.var 2)])],
    .ret (.tup [(.ife (.cmp .gt (.idx (.var 4) (.cst (.int 0))) (.cst (.int 0))) (.glb "MORE") (.glb "LESS")), (.var 2)])]
-- quicker: 8 slots, [False, False]
def m_quicker : List MS := [.ite (.cal "are_alike_dice" [(.var 0), (.var 1)]) [.unp [2, 3, 4] (.cal "paper_of" [(.var 0), (.var 1)])] [.unp [2, 3] (.cal "word_unlike" [(.var 0), (.var 1)])],
    .set 5 (.cal "common_least" [(.var 0), (.var 1)]),
    .set 6 (.lc (.cal "word_of" [(.var 7)]) (.one 7) (.seq (.cal "apart" [(.var 0), (.var 1), (.var 5), (.bop .sub (.var 3) (.cst (.int 1)))])) [] [("number", 7)]),
    .ite (.cmp .ne (.var 2) (.glb "MIXED")) [.whl (.and (.cmp .ne (.var 6) (.lst [])) (.cmp .eq (.idx (.var 6) (.neg (.cst (.int 1)))) (.var 2))) [.exp (.pop 6)]] [],
    .ret (.tup [(.var 2), (.bop .add (.var 5) (.blt .len [(.var 6)])), (.var 6)])]
-- _law_two: 6 slots, [True]
def m_law_two : List MS := [.par [.nm 1, .nm 2] [(.cal "_law_drawn" [(.var 0)]), (.cal "_law_drawn" [(.var 0)])],
    .set 3 (.cal "_law_taken" [(.var 0), (.cst (.int 4))]),
    .ite (.cmp .eq (.var 3) (.cst (.int 0))) [.set 2 (.cal "_law_with" [(.var 1), (.lst [(.tup [(.cst (.str "rule")), (.idx (.var 2) (.cst (.str "rule")))])])])] [.ite (.cmp .eq (.var 3) (.cst (.int 1))) [.set 2 (.cal "_law_with" [(.var 1), (.lst [(.tup [(.cst (.str "near")), (.idx (.var 2) (.cst (.str "near")))])])])] []],
    .set 4 (.bop .add (.cst (.int 1)) (.cal "_law_taken" [(.var 0), (.cst (.int 2))])),
    .set 2 (.cal "_law_with" [(.var 2), (.lst [(.tup [(.cst (.str "die")), (.blt .tuple [(.lc (.bop .mul (.var 5) (.var 4)) (.one 5) (.seq (.idx (.var 1) (.cst (.str "die")))) [] [("_law_share", 5)])])])])]),
    .ite (.not (.cal "_law_ends" [(.var 2)])) [.set 2 (.cal "_law_with" [(.var 1), (.lst [(.tup [(.cst (.str "rule")), (.cst (.str "done"))]), (.tup [(.cst (.str "near")), (.tup [])]), (.tup [(.cst (.str "far")), (.tup [])])])])] [],
    .ret (.lst [(.var 1), (.var 2)])]
-- _law_apart: 7 slots, [False, False, False, False]
def m_law_apart : List MS := [.par [.nm 4, .nm 5] [(.cal "means" [(.cal "_law_made" [(.var 0)]), (.var 2), (.var 3)]), (.cal "means" [(.cal "_law_made" [(.var 1)]), (.var 2), (.var 3)])],
    .ret (.lc (.cal "_law_less" [(.idx (.var 4) (.var 6)), (.idx (.var 5) (.var 6))]) (.one 6) (.rg1 (.blt .len [(.var 4)])) [] [("_law_k", 6)])]
-- _law_low: 8 slots, [False, False, False]
def m_law_low : List MS := [.set 3 (.lst []),
    .fr (.one 4) (.seq (.cal "window" [(.var 0), (.var 2)])) [.set 3 (.bop .add (.var 3) (.lc (.cal "_law_less" [(.var 4), (.var 7)]) (.one 7) (.seq (.cal "window" [(.var 1), (.var 2)])) [] [("_law_there", 7)]))],
    .set 5 (.idx (.var 3) (.cst (.int 0))),
    .fr (.one 6) (.seq (.var 3)) [.ite (.cmp .lt (.idx (.cal "_law_less" [(.var 6), (.var 5)]) (.cst (.int 0))) (.cst (.int 0))) [.set 5 (.var 6)] []],
    .ret (.var 5)]
-- _law_slow: 4 slots, [False, False]
def m_law_slow : List MS := [.par [.nm 2, .nm 3] [(.cal "_law_die_mean" [(.var 0)]), (.cal "_law_die_mean" [(.var 1)])],
    .ret (.cal "_law_less" [(.cal "_law_frac" [(.idx (.var 2) (.cst (.int 1))), (.idx (.var 2) (.cst (.int 0)))]), (.cal "_law_frac" [(.idx (.var 3) (.cst (.int 1))), (.idx (.var 3) (.cst (.int 0)))])])]
-- _law_beyond: 3 slots, [False, False]
def m_law_beyond : List MS := [.set 2 (.cal "_law_times" [(.tup [(.bop .sub (.cst (.int 0)) (.idx (.var 0) (.cst (.int 0)))), (.idx (.var 0) (.cst (.int 1)))]), (.cal "_law_frac" [(.idx (.var 1) (.cst (.int 1))), (.idx (.var 1) (.cst (.int 0)))])]),
    .ret (.bop .add (.bop .fdiv (.idx (.var 2) (.cst (.int 0))) (.idx (.var 2) (.cst (.int 1)))) (.cst (.int 1)))]
-- _law_sure: 7 slots, [False, False, False]
def m_law_sure : List MS := [.par [.nm 3, .nm 4, .nm 5] [(.cal "_law_made" [(.var 0)]), (.cal "_law_made" [(.var 1)]), (.cal "_law_slow" [(.var 0), (.var 1)])],
    .ite (.cmp .gt (.idx (.var 5) (.cst (.int 0))) (.cst (.int 0))) [.ret (.lst [(.cst (.str "more")), (.blt .max [(.var 2), (.cal "_law_beyond" [(.cal "_law_low" [(.var 3), (.var 4), (.var 2)]), (.var 5)])])])] [],
    .ite (.cmp .lt (.idx (.var 5) (.cst (.int 0))) (.cst (.int 0))) [.ret (.lst [(.cst (.str "less")), (.blt .max [(.var 2), (.cal "_law_beyond" [(.cal "_law_low" [(.var 4), (.var 3), (.var 2)]), (.tup [(.bop .sub (.cst (.int 0)) (.idx (.var 5) (.cst (.int 0)))), (.idx (.var 5) (.cst (.int 1)))])])])])] [],
    .set 6 (.var 2),
    .whl (.and (.cmp .le (.idx (.cal "_law_low" [(.var 3), (.var 4), (.var 6)]) (.cst (.int 0))) (.cst (.int 0))) (.cmp .le (.idx (.cal "_law_low" [(.var 4), (.var 3), (.var 6)]) (.cst (.int 0))) (.cst (.int 0)))) [.set 6 (.bop .add (.var 6) (.cst (.int 1)))],
    .ret (.lst [(.idx (.lst [(.cst (.str "less")), (.cst (.str "more"))]) (.blt .int [(.cmp .gt (.idx (.cal "_law_low" [(.var 3), (.var 4), (.var 6)]) (.cst (.int 0))) (.cst (.int 0)))])), (.var 6)])]
-- parting: 9 slots, [False, False]
def m_parting : List MS := [.unp [2, 3, 4] (.cal "quicker" [(.var 0), (.var 1)]),
    .fr (.many [5, 6]) (.enu (.var 4)) [.ite (.cmp .ne (.var 6) (.glb "LIKE")) [.ret (.bop .add (.cal "common_least" [(.var 0), (.var 1)]) (.var 5))] []],
    .ite (.cmp .eq (.var 2) (.glb "MIXED")) [.set 7 (.cal "apart" [(.var 0), (.var 1), (.var 3), (.bop .sub (.bop .add (.var 3) (.blt .len [(.att (.var 0) "shares")])) (.cst (.int 1)))]), .ret (.idx (.lc (.bop .add (.var 3) (.var 5)) (.many [5, 8]) (.enu (.var 7)) [(.cmp .ne (.idx (.var 8) (.cst (.int 0))) (.cst (.int 0)))] [("at", 5), ("number", 8)]) (.cst (.int 0)))] [],
    .ret (.ife (.cmp .eq (.var 2) (.glb "LIKE")) (.cst .non) (.var 3))]
-- alike: 2 slots, [False, False]
def m_alike : List MS := [.ret (.cmp .is (.cal "parting" [(.var 0), (.var 1)]) (.cst .non))]
-- NotAlike.__init__: 1 slots, [True]
def m_NotAlike_init : List MS := [.pas]
-- need_alike: 2 slots, [False, False]
def m_need_alike : List MS := [.ite (.not (.cal "are_alike_dice" [(.var 0), (.var 1)])) [.rai "NotAlike" []] []]
-- is_never_less: 9 slots, [False, False, False]
def m_is_never_less : List MS := [.set 3 (.blt .max [(.lst [(.att (.var 0) "least_length"), (.bop .add (.att (.var 1) "least_length") (.var 2))])]),
    .set 4 (.bop .sub (.bop .add (.blt .max [(.lst [(.cal "first_window" [(.var 0)]), (.bop .add (.cal "first_window" [(.var 1)]) (.var 2))])]) (.blt .len [(.att (.var 0) "shares")])) (.cst (.int 1))),
    .par [.nm 5, .nm 6] [(.cal "means_to" [(.var 0), (.var 3), (.var 4)]), (.cal "means_to" [(.var 1), (.bop .sub (.var 3) (.var 2)), (.bop .sub (.var 4) (.var 2))])],
    .ret (.not (.blt .any [(.lc (.cal "is_less" [(.var 7), (.var 8)]) (.many [7, 8]) (.zip (.var 5) (.var 6)) [] [("here", 7), ("there", 8)])]))]
-- head_start: 3 slots, [False, False]
def m_head_start : List MS := [.exp (.cal "need_alike" [(.var 0), (.var 1)]),
    .set 2 (.cst (.int 0)),
    .whl (.not (.cal "is_never_less" [(.var 0), (.var 1), (.var 2)])) [.aug 2 .add (.cst (.int 1))],
    .ret (.var 2)]
-- _law_is_enough: 9 slots, [False, False, False]
def m_law_is_enough : List MS := [.par [.nm 3, .nm 4] [(.blt .len [(.idx (.var 0) (.cst (.str "die")))]), (.blt .max [(.cal "_law_least" [(.var 0)]), (.bop .add (.cal "_law_least" [(.var 1)]) (.var 2))])],
    .set 5 (.bop .sub (.blt .max [(.cal "_law_held" [(.var 0)]), (.bop .add (.cal "_law_held" [(.var 1)]) (.var 2))]) (.cst (.int 1))),
    .set 6 (.cal "means" [(.cal "_law_made" [(.var 0)]), (.var 4), (.var 5)]),
    .set 7 (.cal "means" [(.cal "_law_made" [(.var 1)]), (.bop .sub (.var 4) (.var 2)), (.bop .sub (.var 5) (.var 2))]),
    .ret (.cmp .eq (.blt .len [(.lc (.var 8) (.one 8) (.rg1 (.blt .len [(.var 6)])) [(.cmp .lt (.idx (.cal "_law_less" [(.idx (.var 6) (.var 8)), (.idx (.var 7) (.var 8))]) (.cst (.int 0))) (.cst (.int 0)))] [("_law_k", 8)])]) (.cst (.int 0)))]
-- is_fraction: 1 slots, [False]
def m_is_fraction : List MS := [.ite (.or (.not (.isi (.var 0) .tuple)) (.or (.cmp .ne (.blt .len [(.var 0)]) (.cst (.int 2))) (.or (.not (.cal "is_whole" [(.idx (.var 0) (.cst (.int 0)))])) (.not (.cal "is_whole" [(.idx (.var 0) (.cst (.int 1)))]))))) [.ret (.cst (.bl false))] [],
    .ret (.and (.cmp .gt (.idx (.var 0) (.cst (.int 1))) (.cst (.int 0))) (.cmp .eq (.cal "common" [(.idx (.var 0) (.cst (.int 0))), (.idx (.var 0) (.cst (.int 1)))]) (.cst (.int 1))))]
-- paper: 2 slots, [False, False]
def m_paper : List MS := [.exp (.cal "need_alike" [(.var 0), (.var 1)]),
    .ret (.cal "paper_of" [(.var 0), (.var 1)])]
-- are_fractions: 3 slots, [False, False]
def m_are_fractions : List MS := [.ret (.and (.isi (.var 0) .tuple) (.and (.cmp .eq (.blt .len [(.var 0)]) (.var 1)) (.blt .all [(.lc (.cal "is_fraction" [(.var 2)]) (.one 2) (.seq (.var 0)) [] [("number", 2)])])))]
-- shows: 4 slots, [False, False, False]
def m_shows : List MS := [.exp (.cal "need_alike" [(.var 0), (.var 1)]),
    .set 3 (.blt .len [(.att (.var 0) "shares")]),
    .ite (.or (.not (.isi (.var 2) .tuple)) (.or (.cmp .ne (.blt .len [(.var 2)]) (.cst (.int 3))) (.not (.isi (.idx (.var 2) (.cst (.int 0))) .str)))) [.ret (.cst (.bl false))] [],
    .ite (.or (.not (.cal "is_whole" [(.idx (.var 2) (.cst (.int 1)))])) (.or (.cmp .lt (.idx (.var 2) (.cst (.int 1))) (.cal "common_window" [(.var 0), (.var 1)])) (.not (.cal "are_fractions" [(.idx (.var 2) (.cst (.int 2))), (.var 3)])))) [.ret (.cst (.bl false))] [],
    .ite (.cmp .ne (.cal "apart" [(.var 0), (.var 1), (.idx (.var 2) (.cst (.int 1))), (.bop .sub (.bop .add (.idx (.var 2) (.cst (.int 1))) (.var 3)) (.cst (.int 1)))]) (.blt .list [(.idx (.var 2) (.cst (.int 2)))])) [.ret (.cst (.bl false))] [],
    .ite (.cmp .eq (.idx (.var 2) (.cst (.int 0))) (.glb "MIXED")) [.ret (.and (.cmp .ne (.cal "one_word" [(.idx (.var 2) (.cst (.int 2)))]) (.glb "LIKE")) (.cmp .eq (.idx (.cal "kept_sum" [(.var 0), (.blt .list [(.idx (.var 2) (.cst (.int 2)))])]) (.cst (.int 0))) (.cst (.int 0))))] [],
    .ret (.and (.cmp .inn (.idx (.var 2) (.cst (.int 0))) (.tup [(.glb "LESS"), (.glb "LIKE"), (.glb "MORE")])) (.cmp .eq (.cal "one_word" [(.idx (.var 2) (.cst (.int 2)))]) (.idx (.var 2) (.cst (.int 0)))))]
-- _law_shows: 7 slots, [False, False, False]
def m_law_shows : List MS := [.set 3 (.blt .len [(.idx (.var 0) (.cst (.str "die")))]),
    .ite (.or (.not (.isi (.var 2) .tuple)) (.or (.cmp .ne (.blt .len [(.var 2)]) (.cst (.int 3))) (.cmp .nin (.idx (.var 2) (.cst (.int 0))) (.lst [(.cst (.str "less")), (.cst (.str "like")), (.cst (.str "mixed")), (.cst (.str "more"))])))) [.ret (.cst (.bl false))] [],
    .ite (.or (.not (.isi (.idx (.var 2) (.cst (.int 1))) .int)) (.isi (.idx (.var 2) (.cst (.int 1))) .bool)) [.ret (.cst (.bl false))] [],
    .ite (.cmp .lt (.idx (.var 2) (.cst (.int 1))) (.bop .sub (.blt .max [(.cal "_law_held" [(.var 0)]), (.cal "_law_held" [(.var 1)])]) (.var 3))) [.ret (.cst (.bl false))] [],
    .set 4 (.cal "_law_apart" [(.var 0), (.var 1), (.idx (.var 2) (.cst (.int 1))), (.bop .sub (.bop .add (.idx (.var 2) (.cst (.int 1))) (.var 3)) (.cst (.int 1)))]),
    .ite (.cmp .ne (.idx (.var 2) (.cst (.int 2))) (.blt .tuple [(.var 4)])) [.ret (.cst (.bl false))] [],
    .set 5 (.lc (.cal "_law_word" [(.var 6)]) (.one 6) (.seq (.var 4)) [] [("_law_one", 6)]),
    .ite (.cmp .eq (.idx (.var 2) (.cst (.int 0))) (.cst (.str "mixed"))) [.ret (.and (.cmp .ne (.var 5) (.bop .mul (.lst [(.cst (.str "like"))]) (.var 3))) (.cmp .eq (.idx (.cal "_law_kept" [(.var 0), (.var 4)]) (.cst (.int 0))) (.cst (.int 0))))] [],
    .ret (.cmp .eq (.var 5) (.bop .mul (.lst [(.idx (.var 2) (.cst (.int 0)))]) (.var 3)))]
-- _law_near: 10 slots, [True, False, False, False]
def m_law_near : List MS := [.set 4 (.cal "_law_taken" [(.var 0), (.cst (.int 7))]),
    .unp [5, 6, 7] (.var 3),
    .ite (.cmp .eq (.var 4) (.cst (.int 0))) [.ret (.tup [(.idx (.lst [(.cst (.str "less")), (.cst (.str "like")), (.cst (.str "mixed")), (.cst (.str "more"))]) (.cal "_law_taken" [(.var 0), (.cst (.int 4))])), (.var 6), (.var 7)])] [],
    .ite (.cmp .eq (.var 4) (.cst (.int 1))) [.set 8 (.cal "_law_taken" [(.var 0), (.blt .len [(.var 7)])]), .ret (.tup [(.var 5), (.var 6), (.bop .add (.bop .add (.slc (.var 7) [] [(.var 8)]) (.tup [(.idx (.lst [(.tup [(.cst (.int 1)), (.cst (.int 2))]), (.tup [(.cst (.int 0)), (.cst (.int 1))]), (.cst (.int 0)), (.cst .non), (.tup [(.cst (.int 2)), (.cst (.int 4))])]) (.cal "_law_taken" [(.var 0), (.cst (.int 5))]))])) (.slc (.var 7) [(.bop .add (.var 8) (.cst (.int 1)))] []))])] [],
    .ite (.cmp .lt (.var 4) (.cst (.int 4))) [.set 6 (.bop .sub (.bop .add (.var 6) (.cal "_law_taken" [(.var 0), (.cst (.int 5))])) (.cst (.int 1))), .ite (.cmp .lt (.var 6) (.blt .max [(.cal "_law_least" [(.var 1)]), (.cal "_law_least" [(.var 2)])])) [.ret (.tup [(.var 5), (.cst (.int 0)), (.var 7)])] [], .ret (.tup [(.var 5), (.var 6), (.blt .tuple [(.cal "_law_apart" [(.var 1), (.var 2), (.var 6), (.bop .sub (.bop .add (.var 6) (.blt .len [(.var 7)])) (.cst (.int 1)))])])])] [],
    .ite (.cmp .eq (.var 4) (.cst (.int 4))) [.ret (.tup [(.var 5), (.var 6), (.blt .list [(.var 7)])])] [],
    .set 9 (.lst [(.slc (.var 3) [] [(.cst (.int 2))]), (.blt .list [(.var 3)]), (.cst .non), (.tup [(.var 5), (.cst (.bl true)), (.var 7)]), (.tup [(.cst .non), (.var 6), (.var 7)]), (.tup [(.var 5), (.var 6), (.slc (.var 7) [(.cst (.int 1))] [])])]),
    .ret (.idx (.var 9) (.cal "_law_taken" [(.var 0), (.cst (.int 6))]))]
-- AtEnd.__init__: 1 slots, [True]
def m_AtEnd_init : List MS := [.pas]
-- Waits.__init__: 1 slots, [True]
def m_Waits_init : List MS := [.pas]
-- NoFace.__init__: 2 slots, [True, False]
def m_NoFace_init : List MS := [.pas,
    .fld 0 "face" (.var 1)]
-- Stands.__init__: 1 slots, [True]
def m_Stands_init : List MS := [.pas]
-- Token.__init__: 3 slots, [True, False, False]
def m_Token_init : List MS := [.exp (.cal "need_length" [(.var 1), (.var 2)]),
    .fld 0 "source" (.var 1),
    .fld 0 "size" (.var 2),
    .fld 0 "spots" (.lst [(.tup [(.cst (.int 0)), (.cst (.int 0))])]),
    .fld 0 "faces" (.tup [])]
-- Token.place: 1 slots, [False]
def m_Token_place : List MS := [.ret (.idx (.idx (.att (.var 0) "spots") (.neg (.cst (.int 1)))) (.cst (.int 0)))]
-- Token.waits: 1 slots, [False]
def m_Token_waits : List MS := [.ret (.idx (.idx (.att (.var 0) "spots") (.neg (.cst (.int 1)))) (.cst (.int 1)))]
-- Token.turns: 1 slots, [False]
def m_Token_turns : List MS := [.ret (.blt .len [(.att (.var 0) "faces")])]
-- Token.length: 1 slots, [False]
def m_Token_length : List MS := [.ret (.att (.var 0) "size")]
-- Token.race: 1 slots, [False]
def m_Token_race : List MS := [.ret (.att (.var 0) "source")]
-- Token.left: 3 slots, [False]
def m_Token_left : List MS := [.unp [1, 2] (.idx (.att (.var 0) "spots") (.neg (.cst (.int 1)))),
    .ret (.cal "added" [(.cal "left_means" [(.att (.var 0) "source"), (.att (.var 0) "size"), (.var 1)]), (.tup [(.var 2), (.cst (.int 1))])])]
-- Token.__len__: 1 slots, [False]
def m_Token_len : List MS := [.ret (.blt .len [(.att (.var 0) "faces")])]
-- Token.__eq__: 2 slots, [False, False]
def m_Token_eq : List MS := [.ite (.or (.not (.isi (.var 1) (.cls "Token"))) (.cmp .ne (.att (.var 0) "source") (.att (.var 1) "source"))) [.ret (.cst (.bl false))] [],
    .ret (.and (.cmp .eq (.att (.var 0) "size") (.att (.var 1) "size")) (.cmp .eq (.att (.var 0) "faces") (.att (.var 1) "faces")))]
-- _law_is: 6 slots, [False, False, False, False, False, False]
def m_law_is : List MS := [.ite (.or (.cmp .ne (.tup [(.att (.var 0) "place"), (.att (.var 0) "waits")]) (.var 4)) (.or (.cmp .ne (.att (.var 0) "log") (.var 3)) (.or (.cmp .ne (.att (.var 0) "length") (.var 2)) (.cmp .ne (.att (.var 0) "race") (.cal "_law_made" [(.var 1)]))))) [.ret (.cst (.bl false))] [],
    .ite (.or (.cmp .ne (.att (.var 0) "turns") (.blt .len [(.var 3)])) (.cmp .ne (.blt .len [(.var 0)]) (.blt .len [(.var 3)]))) [.ret (.cst (.bl false))] [],
    .ret (.cmp .eq (.mth "Token" "left" (.var 0) []) (.cal "_law_sum" [(.idx (.var 5) (.idx (.var 4) (.cst (.int 0)))), (.tup [(.idx (.var 4) (.cst (.int 1))), (.cst (.int 1))])]))]
-- _law_due: 5 slots, [False, False, False, False]
def m_law_due : List MS := [.ite (.cmp .eq (.idx (.var 2) (.cst (.int 0))) (.var 1)) [.ret (.cst (.str "end"))] [],
    .ite (.cmp .eq (.var 3) (.cst (.str "wait"))) [.ret (.ife (.cmp .eq (.idx (.var 2) (.cst (.int 1))) (.cst (.int 0))) (.cst (.str "stands")) (.cst .non))] [],
    .ite (.cmp .gt (.idx (.var 2) (.cst (.int 1))) (.cst (.int 0))) [.ret (.cst (.str "waits"))] [],
    .set 4 (.and (.isi (.var 3) .int) (.and (.not (.isi (.var 3) .bool)) (.cmp .inn (.var 3) (.cal "_law_faces" [(.var 0)])))),
    .ret (.ife (.var 4) (.cst .non) (.lst [(.cst (.str "face")), (.var 3)]))]
-- InvalidText.__init__: 3 slots, [True, False, False]
def m_InvalidText_init : List MS := [.pas,
    .fld 0 "line" (.var 1),
    .fld 0 "word" (.var 2)]
-- notes_text: 5 slots, [False, False]
def m_notes_text : List MS := [.ret (.bmt .join (.cst (.str " ")) [(.bop .add (.lst [(.var 0)]) (.lc (.fst [(.var 2), (.cst (.str " ")), (.var 3), (.cst (.str " ")), (.var 4)]) (.many [2, 3, 4]) (.seq (.var 1)) [] [("place", 2), ("word", 3), ("number", 4)]))])]
-- write: 4 slots, [False]
def m_write : List MS := [.set 1 (.lc (.blt .str [(.var 3)]) (.one 3) (.seq (.att (.var 0) "shares")) [] [("share", 3)]),
    .set 2 (.lst [(.bmt .join (.cst (.str " ")) [(.bop .add (.lst [(.cst (.str "die"))]) (.var 1))]), (.fst [(.cst (.str "rule ")), (.att (.var 0) "word")])]),
    .ret (.bmt .join (.cst (.str "\n")) [(.bop .add (.var 2) (.lst [(.cal "notes_text" [(.cst (.str "near")), (.att (.var 0) "starts")]), (.cal "notes_text" [(.cst (.str "far")), (.att (.var 0) "tails")])]))])]
-- is_share: 2 slots, [False]
def m_is_share : List MS := [.ite (.or (.not (.chn .le .le (.cst (.int 1)) (.blt .len [(.var 0)]) (.cst (.int 2)))) (.not (.blt .all [(.lc (.cmp .inn (.var 1) (.glb "DIGITS")) (.one 1) (.seq (.var 0)) [] [("sign", 1)])]))) [.ret (.cst (.bl false))] [],
    .ret (.or (.cmp .eq (.var 0) (.cst (.str "0"))) (.cmp .ne (.idx (.var 0) (.cst (.int 0))) (.cst (.str "0"))))]
-- LineReader.__init__: 3 slots, [True, False, False]
def m_LineReader_init : List MS := [.fld 0 "line" (.var 1),
    .fld 0 "row" (.var 2),
    .fld 0 "spot" (.cst (.int 0))]
-- LineReader.refuse: 1 slots, [False]
def m_LineReader_refuse : List MS := [.rai "InvalidText" [(.att (.var 0) "line"), (.bop .add (.att (.var 0) "spot") (.cst (.int 1)))]]
-- LineReader.is_over: 1 slots, [False]
def m_LineReader_is_over : List MS := [.ret (.cmp .eq (.att (.var 0) "spot") (.blt .len [(.att (.var 0) "row")]))]
-- LineReader.one_of: 2 slots, [True, False]
def m_LineReader_one_of : List MS := [.ite (.or (.mth "LineReader" "is_over" (.var 0) []) (.cmp .nin (.idx (.att (.var 0) "row") (.att (.var 0) "spot")) (.var 1))) [.exp (.mth "LineReader" "refuse" (.var 0) [])] [],
    .auf 0 "spot" .add (.cst (.int 1)),
    .ret (.idx (.att (.var 0) "row") (.bop .sub (.att (.var 0) "spot") (.cst (.int 1))))]
-- LineReader.share: 1 slots, [True]
def m_LineReader_share : List MS := [.ite (.or (.mth "LineReader" "is_over" (.var 0) []) (.not (.cal "is_share" [(.idx (.att (.var 0) "row") (.att (.var 0) "spot"))]))) [.exp (.mth "LineReader" "refuse" (.var 0) [])] [],
    .auf 0 "spot" .add (.cst (.int 1)),
    .ret (.blt .int [(.idx (.att (.var 0) "row") (.bop .sub (.att (.var 0) "spot") (.cst (.int 1))))])]
-- LineReader.end: 1 slots, [False]
def m_LineReader_end : List MS := [.ite (.not (.mth "LineReader" "is_over" (.var 0) [])) [.exp (.mth "LineReader" "refuse" (.var 0) [])] []]
-- TextReader.__init__: 4 slots, [True, False]
def m_TextReader_init : List MS := [.fld 0 "rows" (.lc (.lc (.var 2) (.one 2) (.seq (.bmt .split (.var 3) [(.cst (.str " "))])) [(.cmp .ne (.var 2) (.cst (.str "")))] [("word", 2)]) (.one 3) (.seq (.bmt .split (.var 1) [(.cst (.str "\n"))])) [] [("line", 3)]),
    .fld 0 "at" (.cst (.int 0))]
-- TextReader.take: 3 slots, [True, False]
def m_TextReader_take : List MS := [.ite (.cmp .eq (.att (.var 0) "at") (.blt .len [(.att (.var 0) "rows")])) [.rai "InvalidText" [(.bop .add (.blt .len [(.att (.var 0) "rows")]) (.cst (.int 1))), (.cst (.int 1))]] [],
    .auf 0 "at" .add (.cst (.int 1)),
    .set 2 (.new "LineReader" [(.att (.var 0) "at"), (.idx (.att (.var 0) "rows") (.bop .sub (.att (.var 0) "at") (.cst (.int 1))))]),
    .exp (.mth "LineReader" "one_of" (.var 2) [(.tup [(.var 1)])]),
    .ret (.var 2)]
-- notes_in: 6 slots, [True]
def m_notes_in : List MS := [.set 1 (.tup []),
    .whl (.not (.mth "LineReader" "is_over" (.var 0) [])) [.set 2 (.mth "LineReader" "one_of" (.var 0) [(.lc (.var 5) (.one 5) (.seq (.glb "PLACES")) [(.or (.cmp .eq (.var 1) (.tup [])) (.cmp .gt (.blt .int [(.var 5)]) (.idx (.idx (.var 1) (.neg (.cst (.int 1)))) (.cst (.int 0)))))] [("digit", 5)])]), .set 3 (.mth "LineReader" "one_of" (.var 0) [(.tup [(.glb "GO"), (.glb "WAIT")])]), .set 4 (.mth "LineReader" "one_of" (.var 0) [(.ife (.cmp .eq (.var 3) (.glb "WAIT")) (.glb "PAUSES") (.glb "TARGETS"))]), .set 1 (.bop .add (.var 1) (.tup [(.tup [(.blt .int [(.var 2)]), (.var 3), (.blt .int [(.var 4)])])]))],
    .ret (.var 1)]
-- read: 7 slots, [False]
def m_read : List MS := [.set 1 (.new "TextReader" [(.var 0)]),
    .set 2 (.mth "TextReader" "take" (.var 1) [(.cst (.str "die"))]),
    .set 3 (.tup [(.mth "LineReader" "share" (.var 2) [])]),
    .whl (.and (.not (.mth "LineReader" "is_over" (.var 2) [])) (.cmp .lt (.blt .len [(.var 3)]) (.glb "MOST_FACES"))) [.set 3 (.bop .add (.var 3) (.tup [(.mth "LineReader" "share" (.var 2) [])]))],
    .exp (.mth "LineReader" "end" (.var 2) []),
    .set 2 (.mth "TextReader" "take" (.var 1) [(.cst (.str "rule"))]),
    .set 4 (.mth "LineReader" "one_of" (.var 2) [(.glb "RULES")]),
    .exp (.mth "LineReader" "end" (.var 2) []),
    .set 5 (.cal "notes_in" [(.mth "TextReader" "take" (.var 1) [(.cst (.str "near"))])]),
    .set 6 (.cal "notes_in" [(.mth "TextReader" "take" (.var 1) [(.cst (.str "far"))])]),
    .ite (.cmp .lt (.att (.var 1) "at") (.blt .len [(.att (.var 1) "rows")])) [.rai "InvalidText" [(.bop .add (.att (.var 1) "at") (.cst (.int 1))), (.cst (.int 1))]] [],
    .ret (.new "Race" [(.var 3), (.var 4), (.var 5), (.var 6)])]
-- _law_lines: 7 slots, [False]
def m_law_lines : List MS := [.set 1 (.lst [(.bmt .join (.cst (.str " ")) [(.bop .add (.lst [(.cst (.str "die"))]) (.lc (.blt .str [(.var 5)]) (.one 5) (.seq (.idx (.var 0) (.cst (.str "die")))) [] [("_law_share", 5)]))]), (.bop .add (.cst (.str "rule ")) (.idx (.var 0) (.cst (.str "rule"))))]),
    .fr (.one 2) (.seq (.lst [(.cst (.str "near")), (.cst (.str "far"))])) [.set 3 (.lst [(.var 2)]), .fr (.one 4) (.seq (.idx (.var 0) (.var 2))) [.set 3 (.bop .add (.var 3) (.lc (.blt .str [(.var 6)]) (.one 6) (.seq (.var 4)) [] [("_law_part", 6)]))], .app 1 (.bmt .join (.cst (.str " ")) [(.var 3)])],
    .ret (.var 1)]
-- _law_share_wrong: 2 slots, [False]
def m_law_share_wrong : List MS := [.ret (.cmp .nin (.var 0) (.lc (.blt .str [(.var 1)]) (.one 1) (.rg1 (.cst (.int 100))) [] [("_law_k", 1)]))]
-- _law_notes_wrong: 6 slots, [False]
def m_law_notes_wrong : List MS := [.set 1 (.cst (.int 0)),
    .fr (.one 2) (.rg1 (.blt .len [(.var 0)])) [.set 3 (.bop .mod (.var 2) (.cst (.int 3))), .set 4 (.lc (.blt .str [(.var 5)]) (.one 5) (.rg2 (.bop .add (.var 1) (.cst (.int 1))) (.cst (.int 7))) [] [("_law_place", 5)]), .ite (.cmp .eq (.var 3) (.cst (.int 1))) [.set 4 (.lst [(.cst (.str "go")), (.cst (.str "wait"))])] [.ite (.cmp .eq (.var 3) (.cst (.int 2))) [.set 4 (.ife (.cmp .eq (.idx (.var 0) (.bop .sub (.var 2) (.cst (.int 1)))) (.cst (.str "wait"))) (.lst [(.cst (.str "1")), (.cst (.str "2")), (.cst (.str "3"))]) (.lst [(.cst (.str "0")), (.cst (.str "1")), (.cst (.str "2")), (.cst (.str "3")), (.cst (.str "4")), (.cst (.str "5")), (.cst (.str "6"))]))] []], .ite (.cmp .nin (.idx (.var 0) (.var 2)) (.var 4)) [.ret (.bop .add (.var 2) (.cst (.int 1)))] [], .ite (.cmp .eq (.var 3) (.cst (.int 0))) [.set 1 (.blt .int [(.idx (.var 0) (.var 2))])] []],
    .ret (.ife (.cmp .gt (.bop .mod (.blt .len [(.var 0)]) (.cst (.int 3))) (.cst (.int 0))) (.bop .add (.blt .len [(.var 0)]) (.cst (.int 1))) (.cst (.int 0)))]
-- _law_line_wrong: 4 slots, [False, False]
def m_law_line_wrong : List MS := [.ite (.or (.cmp .eq (.var 1) (.lst [])) (.cmp .ne (.idx (.var 1) (.cst (.int 0))) (.idx (.lst [(.cst (.str "die")), (.cst (.str "rule")), (.cst (.str "near")), (.cst (.str "far"))]) (.var 0)))) [.ret (.cst (.int 1))] [],
    .ite (.cmp .gt (.var 0) (.cst (.int 1))) [.set 2 (.cal "_law_notes_wrong" [(.slc (.var 1) [(.cst (.int 1))] [])]), .ret (.ife (.cmp .gt (.var 2) (.cst (.int 0))) (.bop .add (.var 2) (.cst (.int 1))) (.cst (.int 0)))] [],
    .fr (.one 3) (.rg2 (.cst (.int 1)) (.blt .len [(.var 1)])) [.ite (.and (.cmp .eq (.var 0) (.cst (.int 0))) (.or (.cmp .gt (.var 3) (.cst (.int 6))) (.cal "_law_share_wrong" [(.idx (.var 1) (.var 3))]))) [.ret (.bop .add (.var 3) (.cst (.int 1)))] [], .ite (.and (.cmp .eq (.var 0) (.cst (.int 1))) (.or (.cmp .gt (.var 3) (.cst (.int 1))) (.cmp .nin (.idx (.var 1) (.var 3)) (.lst [(.cst (.str "bounce")), (.cst (.str "done")), (.cst (.str "stay"))])))) [.ret (.bop .add (.var 3) (.cst (.int 1)))] []],
    .ret (.ife (.cmp .eq (.blt .len [(.var 1)]) (.cst (.int 1))) (.cst (.int 2)) (.cst (.int 0)))]
-- _law_wrong: 3 slots, [False]
def m_law_wrong : List MS := [.fr (.one 1) (.rg1 (.cst (.int 4))) [.ite (.cmp .eq (.var 1) (.blt .len [(.var 0)])) [.ret (.lst [(.cst (.str "text")), (.bop .add (.var 1) (.cst (.int 1))), (.cst (.int 1))])] [], .set 2 (.cal "_law_line_wrong" [(.var 1), (.idx (.var 0) (.var 1))]), .ite (.cmp .gt (.var 2) (.cst (.int 0))) [.ret (.lst [(.cst (.str "text")), (.bop .add (.var 1) (.cst (.int 1))), (.var 2)])] []],
    .ret (.ife (.cmp .gt (.blt .len [(.var 0)]) (.cst (.int 4))) (.lst [(.cst (.str "text")), (.cst (.int 5)), (.cst (.int 1))]) (.cst .non))]
-- _law_coin: 3 slots, []
def m_law_coin : List MS := [.par [.nm 0, .nm 1] [(.new "Race" [(.tup [(.cst (.int 1)), (.cst (.int 1))]), (.cst (.str "done")), (.tup []), (.tup [])]), (.new "Race" [(.tup [(.cst (.int 1)), (.cst (.int 1))]), (.cst (.str "stay")), (.tup []), (.tup [])])],
    .ite (.or (.cmp .ne (.cal "means" [(.var 0), (.cst (.int 2)), (.cst (.int 5))]) (.lst [(.tup [(.cst (.int 3)), (.cst (.int 2))]), (.tup [(.cst (.int 9)), (.cst (.int 4))]), (.tup [(.cst (.int 23)), (.cst (.int 8))]), (.tup [(.cst (.int 57)), (.cst (.int 16))])])) (.cmp .ne (.cal "ends" [(.var 0)]) (.tup [(.tup [(.cst (.int 0)), (.cst (.int 1))]), (.tup [(.cst (.int 1)), (.cst (.int 1))])]))) [.ret (.cst (.bl false))] [],
    .ite (.or (.cmp .ne (.cal "means" [(.var 1), (.cst (.int 2)), (.cst (.int 5))]) (.lst [(.tup [(.cst (.int 2)), (.cst (.int 1))]), (.tup [(.cst (.int 3)), (.cst (.int 1))]), (.tup [(.cst (.int 7)), (.cst (.int 2))]), (.tup [(.cst (.int 17)), (.cst (.int 4))])])) (.cmp .ne (.cal "ends" [(.var 1)]) (.tup [(.tup [(.cst (.int 0)), (.cst (.int 1))]), (.tup [(.cst (.int 2)), (.cst (.int 1))])]))) [.ret (.cst (.bl false))] [],
    .ite (.or (.cmp .ne (.cal "held_from" [(.var 0)]) (.cst (.int 4))) (.or (.cmp .ne (.cal "window" [(.var 0), (.cst (.int 2))]) (.tup [(.tup [(.cst (.int 1)), (.cst (.int 6))]), (.tup [(.cst (.int 1)), (.cst (.int 4))])])) (.cmp .ne (.cal "limit" [(.var 0)]) (.tup [(.cst (.int 2)), (.cst (.int 9))])))) [.ret (.cst (.bl false))] [],
    .ite (.or (.cmp .ne (.cal "quicker" [(.var 0), (.var 1)]) (.tup [(.cst (.str "less")), (.cst (.int 2)), (.lst [])])) (.cmp .ne (.cal "parting" [(.var 0), (.var 1)]) (.cst (.int 2)))) [.ret (.cst (.bl false))] [],
    .ite (.or (.not (.cal "alike" [(.var 1), (.new "Race" [(.tup [(.cst (.int 2)), (.cst (.int 2))]), (.cst (.str "bounce")), (.tup []), (.tup [])])])) (.cmp .ne (.cal "head_start" [(.var 0), (.var 1)]) (.cst (.int 2)))) [.ret (.cst (.bl false))] [],
    .ret (.and (.cmp .eq (.cal "head_start" [(.var 1), (.var 0)]) (.cst (.int 0))) (.cmp .eq (.lc (.cal "chance" [(.var 0), (.cst (.int 2)), (.var 2)]) (.one 2) (.rg1 (.cst (.int 3))) [] [("_law_k", 2)]) (.lst [(.tup [(.cst (.int 0)), (.cst (.int 1))]), (.tup [(.cst (.int 1)), (.cst (.int 2))]), (.tup [(.cst (.int 1)), (.cst (.int 1))])])))]
-- _law_noted: 1 slots, []
def m_law_noted : List MS := [.set 0 (.new "Race" [(.tup [(.cst (.int 1)), (.cst (.int 1))]), (.cst (.str "done")), (.tup [(.tup [(.cst (.int 1)), (.cst (.str "wait")), (.cst (.int 1))])]), (.tup [(.tup [(.cst (.int 1)), (.cst (.str "go")), (.cst (.int 3))])])]),
    .ite (.or (.cmp .ne (.att (.var 0) "least_length") (.cst (.int 6))) (.cmp .ne (.cal "lead" [(.var 0)]) (.tup [(.tup [(.cst (.int 2)), (.cst (.int 1))]), (.tup [(.tup [(.cst (.int 3)), (.cst (.int 4))]), (.tup [(.cst (.int 1)), (.cst (.int 4))])])]))) [.ret (.cst (.bl false))] [],
    .ite (.or (.cmp .ne (.cal "ends" [(.var 0)]) (.tup [(.tup [(.cst (.int 0)), (.cst (.int 1))]), (.tup [(.cst (.int 6)), (.cst (.int 1))]), (.tup [(.cst (.int 4)), (.cst (.int 1))]), (.tup [(.cst (.int 6)), (.cst (.int 1))])])) (.cmp .ne (.cal "mean" [(.var 0), (.cst (.int 6))]) (.tup [(.cst (.int 8)), (.cst (.int 1))]))) [.ret (.cst (.bl false))] [],
    .ret (.and (.cmp .eq (.cal "left" [(.var 0), (.cst (.int 6)), (.cst (.int 4))]) (.tup [(.cst (.int 4)), (.cst (.int 1))])) (.and (.cmp .eq (.cal "left" [(.var 0), (.cst (.int 6)), (.cst (.int 6))]) (.tup [(.cst (.int 0)), (.cst (.int 1))])) (.cmp .eq (.cal "left" [(.var 0), (.cst (.int 6)), (.cst (.int 1))]) (.tup [(.cst (.int 7)), (.cst (.int 1))]))))]
-- _law_steps: 4 slots, [False]
def m_law_steps : List MS := [.par [.nm 1, .nm 2] [(.new "Race" [(.tup [(.cst (.int 3))]), (.cst (.str "stay")), (.tup []), (.tup [])]), (.new "Race" [(.tup [(.cst (.int 1))]), (.cst (.str "bounce")), (.tup [(.tup [(.cst (.int 2)), (.cst (.str "wait")), (.var 0)])]), (.tup [])])],
    .ite (.or (.cmp .ne (.cal "means" [(.var 1), (.cst (.int 1)), (.cst (.int 4))]) (.lst [(.tup [(.cst (.int 1)), (.cst (.int 1))]), (.tup [(.cst (.int 2)), (.cst (.int 1))]), (.tup [(.cst (.int 3)), (.cst (.int 1))]), (.tup [(.cst (.int 4)), (.cst (.int 1))])])) (.or (.cmp .ne (.cal "limit" [(.var 1)]) (.tup [(.cst (.int 0)), (.cst (.int 1))])) (.cmp .ne (.cal "limit" [(.var 2)]) (.tup [(.var 0), (.cst (.int 1))])))) [.ret (.cst (.bl false))] [],
    .ite (.or (.cmp .ne (.cal "quicker" [(.var 1), (.var 2)]) (.tup [(.cst (.str "less")), (.cst (.int 3)), (.lst [])])) (.or (.cmp .ne (.cal "head_start" [(.var 1), (.var 2)]) (.var 0)) (.cmp .ne (.cal "head_start" [(.var 2), (.var 1)]) (.cst (.int 0))))) [.ret (.cst (.bl false))] [],
    .set 3 (.new "Race" [(.tup [(.cst (.int 1))]), (.cst (.str "done")), (.tup []), (.tup [(.tup [(.cst (.int 2)), (.cst (.str "wait")), (.var 0)])])]),
    .ret (.and (.cal "alike" [(.var 2), (.var 3)]) (.cmp .eq (.cal "quicker" [(.var 3), (.var 2)]) (.tup [(.cst (.str "like")), (.cst (.int 3)), (.lst [])])))]
-- _law_unlike: 2 slots, []
def m_law_unlike : List MS := [.par [.nm 0, .nm 1] [(.new "Race" [(.tup [(.cst (.int 1))]), (.cst (.str "done")), (.tup []), (.tup [])]), (.new "Race" [(.tup [(.cst (.int 1)), (.cst (.int 1))]), (.cst (.str "done")), (.tup [(.tup [(.cst (.int 1)), (.cst (.str "wait")), (.cst (.int 3))])]), (.tup [])])],
    .ite (.or (.cmp .ne (.cal "means" [(.var 0), (.cst (.int 3)), (.cst (.int 6))]) (.lst [(.tup [(.cst (.int 3)), (.cst (.int 1))]), (.tup [(.cst (.int 4)), (.cst (.int 1))]), (.tup [(.cst (.int 5)), (.cst (.int 1))]), (.tup [(.cst (.int 6)), (.cst (.int 1))])])) (.cmp .ne (.cal "lead" [(.var 1)]) (.tup [(.tup [(.cst (.int 3)), (.cst (.int 1))]), (.tup [(.tup [(.cst (.int 3)), (.cst (.int 4))]), (.tup [(.cst (.int 1)), (.cst (.int 4))])])]))) [.ret (.cst (.bl false))] [],
    .ite (.cmp .ne (.cal "means" [(.var 1), (.cst (.int 3)), (.cst (.int 6))]) (.lst [(.tup [(.cst (.int 15)), (.cst (.int 4))]), (.tup [(.cst (.int 35)), (.cst (.int 8))]), (.tup [(.cst (.int 81)), (.cst (.int 16))]), (.tup [(.cst (.int 183)), (.cst (.int 32))])])) [.ret (.cst (.bl false))] [],
    .ret (.cmp .eq (.cal "quicker" [(.var 0), (.var 1)]) (.tup [(.cst (.str "more")), (.cst (.int 6)), (.lst [(.cst (.str "less")), (.cst (.str "less")), (.cst (.str "less"))])]))]
-- Token.undo: 1 slots, [False]
def m_Token_undo : List MS := [.exp (.cal "_wall" [(.cst (.int 1))])]
-- _law_led: 3 slots, [False, False]
def m_law_led : List MS := [.set 2 (.new "Token" [(.new "Race" [(.tup [(.cst (.int 1))]), (.cst (.str "done")), (.var 0), (.tup [])]), (.var 1)]),
    .exp (.mth "Token" "throw" (.var 2) [(.cst (.int 1))]),
    .ret (.var 2)]
-- _law_call: 4 slots, [False, False]
def m_law_call : List MS := [.ite (.cmp .lt (.var 1) (.cst (.int 4))) [.par [.nm 2, .nm 3] [(.idx (.lst [(.tup [(.cst (.int 0)), (.cst (.int 1))]), (.tup [(.cst (.int 1))]), (.tup [(.cst (.int 1))]), (.tup [(.cst (.int 1))])]) (.var 1)), (.idx (.lst [(.cst (.str "done")), (.cst (.str "Done")), (.cst (.str "done")), (.cst (.str "done"))]) (.var 1))], .exp (.new "Race" [(.var 2), (.var 3), (.idx (.lst [(.tup []), (.tup []), (.tup [(.cst (.int 1))]), (.tup [(.tup [(.cst (.int 1)), (.cst (.str "go")), (.cst (.int 0))])])]) (.var 1)), (.tup [])])] [.ite (.cmp .eq (.var 1) (.cst (.int 4))) [.exp (.cal "mean" [(.var 0), (.cst (.int 0))])] [.ite (.cmp .eq (.var 1) (.cst (.int 5))) [.exp (.cal "left_means" [(.var 0), (.cst (.int 9)), (.cst (.int 10))])] [.ite (.cmp .eq (.var 1) (.cst (.int 6))) [.exp (.cal "quicker" [(.new "Race" [(.tup [(.cst (.int 2)), (.cst (.int 1)), (.cst (.int 4)), (.cst (.int 1))]), (.cst (.str "done")), (.tup []), (.tup [])]), (.new "Race" [(.tup [(.cst (.int 1)), (.cst (.int 4)), (.cst (.int 1)), (.cst (.int 2))]), (.cst (.str "done")), (.tup []), (.tup [])])])] [.ite (.cmp .eq (.var 1) (.cst (.int 7))) [.exp (.cal "head_start" [(.var 0), (.new "Race" [(.tup [(.cst (.int 2)), (.cst (.int 1)), (.cst (.int 3))]), (.cst (.str "done")), (.tup []), (.tup [])])])] [.ite (.cmp .eq (.var 1) (.cst (.int 8))) [.exp (.mth "Token" "throw" (.cal "_law_led" [(.tup []), (.cst (.int 1))]) [(.cst (.int 1))])] [.ite (.cmp .eq (.var 1) (.cst (.int 9))) [.exp (.mth "Token" "throw" (.cal "_law_led" [(.tup [(.tup [(.cst (.int 1)), (.cst (.str "wait")), (.cst (.int 2))])]), (.cst (.int 5))]) [(.cst (.int 1))])] [.ite (.cmp .eq (.var 1) (.cst (.int 10))) [.exp (.mth "Token" "throw" (.new "Token" [(.var 0), (.cst (.int 9))]) [(.cst (.int 5))])] [.ite (.cmp .eq (.var 1) (.cst (.int 11))) [.exp (.mth "Token" "wait" (.new "Token" [(.var 0), (.cst (.int 9))]) [])] [.exp (.cal "read" [(.cst (.str "die"))])]]]]]]]]]]
-- _law_marks: 4 slots, [False, False]
def m_law_marks : List MS := [.par [.nm 2, .nm 3] [(.lst []), (.cst (.bl false))],
    .tri [.exp (.cal "_law_call" [(.var 0), (.var 1)])] [⟨"InvalidDie", none, 2, .at (.cst (.str "die"))⟩, ⟨"InvalidRule", none, 2, .at (.cst (.str "rule"))⟩, ⟨"InvalidPlaces", none, 2, .at (.cst (.str "places"))⟩, ⟨"NoEnd", none, 2, .at (.cst (.str "no end"))⟩, ⟨"NoLength", none, 2, .at (.cst (.str "length"))⟩, ⟨"NoPlace", none, 2, .at (.cst (.str "place"))⟩, ⟨"Undecided", none, 2, .at (.cst (.str "undecided"))⟩, ⟨"NotAlike", none, 2, .at (.cst (.str "not alike"))⟩, ⟨"AtEnd", none, 2, .at (.cst (.str "at end"))⟩, ⟨"Waits", none, 2, .at (.cst (.str "waits"))⟩, ⟨"NoFace", none, 2, .at (.cst (.str "face"))⟩, ⟨"Stands", none, 2, .at (.cst (.str "stands"))⟩, ⟨"InvalidText", none, 2, .at (.cst (.str "text"))⟩],
    .tri [.exp (.cal "_law_call" [(.var 0), (.var 1)])] [⟨"RaceError", none, 3, .at (.cst (.bl true))⟩],
    .ret (.lst [(.var 2), (.var 3)])]
end Rl

set_option Elab.async false
set_option linter.all false
set_option maxRecDepth 100000
set_option maxHeartbeats 4000000
/-! Pl A: a calculus of ends for the small language. -/
namespace Rl
open PySem L2

theorem toNat_inj {a b : Char} (h : a.toNat = b.toNat) : a = b := by
  apply Char.ext
  exact UInt32.toNat_inj.mp h
theorem map_inj {α β : Type} {f : α → β} (hf : ∀ a b, f a = f b → a = b) : ∀ {l m : List α}, l.map f = m.map f → l = m
  | [], [], _ => rfl
  | [], _ :: _, h => by simp at h
  | _ :: _, [], h => by simp at h
  | a :: l, b :: m, h => by
    simp only [List.map_cons, List.cons.injEq] at h
    rw [hf _ _ h.1, map_inj hf h.2]
@[simp] theorem strEq (a b : String) : (Str.ofString a = Str.ofString b) = (a = b) := by
  apply propext
  constructor
  · intro h
    rw [Str.ofString_eq_toList, Str.ofString_eq_toList] at h
    have h1 := congrArg (fun s : Str => s.cps.toList) h
    simp only at h1
    have h2 := map_inj (fun _ _ => toNat_inj) h1
    exact String.toList_inj.mp h2
  · intro h; rw [h]
@[simp] theorem strBeq (a b : String) : (Str.ofString a == Str.ofString b) = (a == b) := by
  rw [Bool.eq_iff_iff]
  simp

/-- what keeps simp out of what follows -/
structure TagO {α : Type} (P : α → Prop) : Type where
/-- there is one, and P holds of it -/
def oK {α : Type} (o : Option α) (P : α → Prop) (t : TagO P := ⟨⟩) : Prop := match o with
  | some a => P a
  | none => False
@[simp] theorem oK_some {α : Type} {a : α} {P : α → Prop} : oK (some a) P = P a := rfl
@[simp] theorem oK_none {α : Type} {P : α → Prop} : oK none P = False := rfl
@[simp] theorem oK_if {α : Type} {c : Prop} [Decidable c] {a b : Option α} {P : α → Prop} : oK (if c then a else b) P = if c then oK a P else oK b P := by split <;> rfl
@[simp] theorem oK_map {α β : Type} {o : Option α} {f : α → β} {P : β → Prop} : oK (o.map f) P = oK o (fun a => P (f a)) := by cases o <;> rfl
structure Tag {α : Type} (Q : α → Env → Prop) (X : Str → List (Str × D) → Env → Prop) : Type where
/-- how it ends: Q well, X with an exception -/
def Ev {α : Type} (m : M α) (δ : Env) (Q : α → Env → Prop) (X : Str → List (Str × D) → Env → Prop) (t : Tag Q X := ⟨⟩) : Prop :=
  match m δ with
  | some (.ok a δ') => Q a δ'
  | some (.ex c fs δ') => X c fs δ'
  | none => False
theorem ev_cq {α : Type} {m : M α} {δ : Env} {Q Q' : α → Env → Prop} {X : Str → List (Str × D) → Env → Prop} (h : ∀ a δ, Q a δ = Q' a δ) : Ev m δ Q X = Ev m δ Q' X := by
  have e : Q = Q' := funext fun a => funext fun δ => h a δ
  subst e
  rfl
abbrev XX := Str → List (Str × D) → Env → Prop
def nox : XX := fun _ _ _ => False
section
variable {α β : Type} {δ : Env} {X : XX} {cf : Cfg} {F : Nat} {keep : Nat → Bool}
theorem Ev.mono {m : M α} {Q Q' : α → Env → Prop} {X X' : XX} (h : Ev m δ Q X) (q : ∀ a δ, Q a δ → Q' a δ) (x : ∀ c fs δ, X c fs δ → X' c fs δ) : Ev m δ Q' X' := by
  unfold Ev at h ⊢
  split at h
  · rename_i e; exact q _ _ h
  · rename_i e; exact x _ _ _ h
  · cases h
@[simp ↓] theorem ev_bnd {x : M α} {f : α → M β} {Q : β → Env → Prop} : Ev (M.bnd x f) δ Q X = Ev x δ (fun a δ' => Ev (f a) δ' Q X) X := by
  unfold Ev M.bnd
  cases x δ with
  | none => rfl
  | some r => cases r <;> rfl
@[simp] theorem ev_ret {a : α} {Q : α → Env → Prop} : Ev (M.ret a) δ Q X = Q a δ := rfl
@[simp] theorem ev_stuck {Q : α → Env → Prop} : Ev (M.stuck) δ Q X = False := rfl
@[simp] theorem ev_opt {o : Option α} {Q : α → Env → Prop} : Ev (M.opt o) δ Q X = oK o (fun a => Q a δ) := by
  cases o <;> rfl
@[simp] theorem ev_ite {c : Prop} [Decidable c] {a b : M α} {Q : α → Env → Prop} : Ev (if c then a else b) δ Q X = if c then Ev a δ Q X else Ev b δ Q X := by
  split <;> rfl
@[simp] theorem ev_look {r : R} {f : D → Option α} {Q : α → Env → Prop} : Ev (look r f) δ Q X = oK (vw δ r) (fun d => oK (f d) (fun a => Q a δ)) := by
  unfold Ev look
  cases vw δ r with
  | none => rfl
  | some d => 
    dsimp only [oK]
    cases h : f d <;> rfl
@[simp] theorem ev_look2 {r s : R} {f : D → D → Option α} {Q : α → Env → Prop} : Ev (look2 r s f) δ Q X = oK (vw δ r) (fun d => oK (vw δ s) (fun e => oK (f d e) (fun a => Q a δ))) := by
  unfold Ev look2
  cases vw δ r with
  | none => rfl
  | some d =>
    cases vw δ s with
    | none => rfl
    | some e =>
      dsimp only [oK]
      cases h : f d e <;> rfl
@[simp] theorem ev_looks {r : List R} {f : List D → Option α} {Q : α → Env → Prop} : Ev (looks r f) δ Q X = oK (vws δ r) (fun d => oK (f d) (fun a => Q a δ)) := by
  unfold Ev looks
  cases vws δ r with
  | none => rfl
  | some d =>
    dsimp only [oK]
    cases h : f d <;> rfl
@[simp] theorem vw_dat {d : D} : vw δ (.dat d) = some d := rfl
@[simp] theorem vw_own {d : D} : vw δ (.own d) = some d := rfl
@[simp] theorem vw_bor {i : Nat} : vw δ (.bor i) = match (motive := Option (Option B) → Option D) δ[i]? with
  | some (some (.dat d)) => some d
  | some (some (.own d)) => some d
  | _ => none := rfl
@[simp] theorem vws_nil : vws δ [] = some [] := rfl
@[simp] theorem vws_cons {r : R} {rs : List R} : vws δ (r :: rs) = match (motive := Option D → Option (List D) → Option (List D)) vw δ r, vws δ rs with | some a, some b => some (a :: b) | _, _ => none := rfl
@[simp] theorem ev_give_dat {d : D} {Q : D → Env → Prop} : Ev (give (.dat d)) δ Q X = Q d δ := rfl
@[simp] theorem ev_give_own {d : D} {Q : D → Env → Prop} : Ev (give (.own d)) δ Q X = Q d δ := rfl
@[simp] theorem ev_give_bor {i : Nat} {Q : D → Env → Prop} : Ev (give (.bor i)) δ Q X = match (motive := Option (Option B) → Prop) δ[i]? with
    | some (some (.dat d)) => Q d δ
    | some (some (.own d)) => Q d (δ.set i (some (.dat d)))
    | _ => False := by
  unfold Ev give
  dsimp only
  rcases δ[i]? with _ | _ | _ | _ <;> rfl
@[simp] theorem ev_gives_nil {Q : List D → Env → Prop} : Ev (gives []) δ Q X = Q [] δ := rfl
@[simp ↓] theorem ev_gives_cons {r : R} {rs : List R} {Q : List D → Env → Prop} : Ev (gives (r :: rs)) δ Q X = Ev (give r) δ (fun d δ => Ev (gives rs) δ (fun ds δ => Q (d :: ds) δ) X) X := by
  show Ev (M.bnd (give r) fun d => M.bnd (gives rs) fun ds => M.ret (d :: ds)) δ Q X = _
  rw [ev_bnd]
  apply ev_cq
  intro d δ
  rw [ev_bnd]
  rfl
@[simp] theorem ev_giveAt_nil {Q : List R → Env → Prop} : Ev (giveAt [] []) δ Q X = Q [] δ := rfl
@[simp ↓] theorem ev_giveAt_t {i : Nat} {ms : List Bool} {rs : List R} {Q : List R → Env → Prop} : Ev (giveAt (true :: ms) (.bor i :: rs)) δ Q X = Ev (giveAt ms rs) δ (fun l δ => Q (.bor i :: l) δ) X := by
  show Ev (M.bnd (giveAt ms rs) fun l => M.ret (.bor i :: l)) δ Q X = _
  rw [ev_bnd]
  rfl
@[simp ↓] theorem ev_giveAt_f {r : R} {ms : List Bool} {rs : List R} {Q : List R → Env → Prop} : Ev (giveAt (false :: ms) (r :: rs)) δ Q X = Ev (give r) δ (fun d δ => Ev (giveAt ms rs) δ (fun l δ => Q (.dat d :: l) δ) X) X := by
  show Ev (M.bnd (give r) fun d => M.bnd (giveAt ms rs) fun l => M.ret (.dat d :: l)) δ Q X = _
  rw [ev_bnd]
  apply ev_cq
  intro d δ
  rw [ev_bnd]
  rfl
/-! expressions -/
@[simp] theorem ev_var {i : Nat} {Q : R → Env → Prop} : Ev (evE cf (.var i)) δ Q X = match (motive := Option (Option B) → Prop) δ[i]? with
    | some (some (.dat d)) => Q (.dat d) δ
    | some (some (.own _)) => Q (.bor i) δ
    | _ => False := by
  unfold Ev evE
  rcases δ[i]? with _ | _ | _ | _ <;> rfl
@[simp] theorem ev_cst {c : Sc} {Q : R → Env → Prop} : Ev (evE cf (.cst c)) δ Q X = Q (.dat (scD c)) δ := rfl
@[simp] theorem ev_glb {x : Str} {Q : R → Env → Prop} : Ev (evE cf (.glb x)) δ Q X = oK (cf.glb x) (fun d => Q (.dat d) δ) := by
  rw [evE, ev_opt]
  cases cf.glb x <;> rfl
@[simp] theorem ev_fnv {x : Str} {Q : R → Env → Prop} : Ev (evE cf (.fnv x)) δ Q X = oK (cf.fns x) (fun _ => Q (.dat (.fn x)) δ) := by
  rw [evE, ev_opt]
  cases cf.fns x <;> rfl
@[simp ↓] theorem ev_bop {o : BO} {a b : ME} {Q : R → Env → Prop} : Ev (evE cf (.bop o a b)) δ Q X = Ev (evE cf a) δ (fun x δ => Ev (evE cf b) δ (fun y δ => Ev (look2 x y (binD o)) δ Q X) X) X := by
  rw [evE, ev_bnd]
  apply ev_cq
  intro x δ
  rw [ev_bnd]
@[simp ↓] theorem ev_neg {a : ME} {Q : R → Env → Prop} : Ev (evE cf (.neg a)) δ Q X = Ev (evE cf a) δ (fun x δ => Ev (look x negD) δ Q X) X := by
  rw [evE, ev_bnd]
@[simp ↓] theorem ev_tst {m : M R} {Q : Bool → Env → Prop} : Ev (tst m) δ Q X = Ev m δ (fun r δ => Ev (look r boolOf) δ Q X) X := by
  rw [tst, ev_bnd]
@[simp ↓] theorem ev_tsv {m : M R} {Q : R → Env → Prop} : Ev (tsv m) δ Q X = Ev m δ (fun r δ => Ev (look r fun d => (boolOf d).map fun b => .dat (.bl b)) δ Q X) X := by
  rw [tsv, ev_bnd]
@[simp ↓] theorem ev_not {a : ME} {Q : R → Env → Prop} : Ev (evE cf (.not a)) δ Q X = Ev (tst (evE cf a)) δ (fun b δ => Q (.dat (.bl (!b))) δ) X := by
  rw [evE, ev_bnd]
  rfl
@[simp ↓] theorem ev_and {a b : ME} {Q : R → Env → Prop} : Ev (evE cf (.and a b)) δ Q X = Ev (tst (evE cf a)) δ (fun c δ => Ev (if c then tsv (evE cf b) else M.ret (.dat (.bl false))) δ Q X) X := by
  rw [evE, ev_bnd]
@[simp ↓] theorem ev_or {a b : ME} {Q : R → Env → Prop} : Ev (evE cf (.or a b)) δ Q X = Ev (tst (evE cf a)) δ (fun c δ => Ev (if c then M.ret (.dat (.bl true)) else tsv (evE cf b)) δ Q X) X := by
  rw [evE, ev_bnd]
@[simp ↓] theorem ev_cmp {o : CO} {a b : ME} {Q : R → Env → Prop} : Ev (evE cf (.cmp o a b)) δ Q X = Ev (evE cf a) δ (fun x δ => Ev (evE cf b) δ (fun y δ => Ev (cmpR cf o x y) δ Q X) X) X := by
  rw [evE, ev_bnd]
  apply ev_cq
  intro x δ
  rw [ev_bnd]
@[simp ↓] theorem ev_chn {o p : CO} {a b c : ME} {Q : R → Env → Prop} : Ev (evE cf (.chn o p a b c)) δ Q X = Ev (evE cf a) δ (fun x δ => Ev (evE cf b) δ (fun y δ => Ev (look2 x y (cmpD o)) δ (fun k δ =>
    Ev (if k then M.bnd (evE cf c) (fun z => M.bnd (look2 y z (cmpD p)) fun k => M.ret (.dat (.bl k))) else M.ret (.dat (.bl false))) δ Q X) X) X) X := by
  rw [evE, ev_bnd]
  apply ev_cq
  intro x δ
  rw [ev_bnd]
  apply ev_cq
  intro y δ
  rw [ev_bnd]
@[simp ↓] theorem ev_ife {c a b : ME} {Q : R → Env → Prop} : Ev (evE cf (.ife c a b)) δ Q X = Ev (tst (evE cf c)) δ (fun k δ => Ev (if k then evE cf a else evE cf b) δ Q X) X := by
  rw [evE, ev_bnd]
@[simp ↓] theorem ev_tup {l : List ME} {Q : R → Env → Prop} : Ev (evE cf (.tup l)) δ Q X = Ev (evL cf l) δ (fun rs δ => Ev (gives rs) δ (fun ds δ => if szOk ds.length then Q (.dat (.tup ds)) δ else False) X) X := by
  rw [evE, ev_bnd]
  apply ev_cq
  intro x δ
  rw [ev_bnd]
  apply ev_cq
  intro x δ
  rw [ev_ite]
  rfl
@[simp ↓] theorem ev_lst {l : List ME} {Q : R → Env → Prop} : Ev (evE cf (.lst l)) δ Q X = Ev (evL cf l) δ (fun rs δ => Ev (gives rs) δ (fun ds δ => if szOk ds.length then Q (.own (.lst ds)) δ else False) X) X := by
  rw [evE, ev_bnd]
  apply ev_cq
  intro x δ
  rw [ev_bnd]
  apply ev_cq
  intro x δ
  rw [ev_ite]
  rfl
@[simp ↓] theorem ev_dic {l : List (ME × ME)} {Q : R → Env → Prop} : Ev (evE cf (.dic l)) δ Q X = Ev (evKV cf l) δ (fun kvs δ => Q (.own (.dct (kvs.foldl (fun acc p => putKD acc p.1 p.2) []))) δ) X := by
  rw [evE, ev_bnd]
  rfl
@[simp] theorem ev_dnt {Q : R → Env → Prop} : Ev (evE cf .dnt) δ Q X = Q (.own (.dtt [])) δ := rfl
@[simp ↓] theorem ev_idx {a b : ME} {Q : R → Env → Prop} : Ev (evE cf (.idx a b)) δ Q X = Ev (evE cf a) δ (fun x δ => Ev (evE cf b) δ (fun y δ => Ev (look2 x y fun d e => (idxD d e).map .dat) δ Q X) X) X := by
  rw [evE, ev_bnd]
  apply ev_cq
  intro x δ
  rw [ev_bnd]
@[simp ↓] theorem ev_slc {a : ME} {lo hi : List ME} {Q : R → Env → Prop} : Ev (evE cf (.slc a lo hi)) δ Q X = Ev (evE cf a) δ (fun x δ => Ev (evL cf lo) δ (fun l δ => Ev (looks l oneInt) δ (fun lo δ => Ev (evL cf hi) δ (fun h δ => Ev (looks h oneInt) δ (fun hi δ =>
    Ev (look x fun d => slcD d lo hi) δ Q X) X) X) X) X) X := by
  rw [evE, ev_bnd]
  apply ev_cq
  intro x δ
  rw [ev_bnd]
  apply ev_cq
  intro x δ
  rw [ev_bnd]
  apply ev_cq
  intro x δ
  rw [ev_bnd]
  apply ev_cq
  intro x δ
  rw [ev_bnd]
@[simp ↓] theorem ev_rev {a : ME} {Q : R → Env → Prop} : Ev (evE cf (.rev a)) δ Q X = Ev (evE cf a) δ (fun x δ => Ev (look x revD) δ Q X) X := by
  rw [evE, ev_bnd]
/-- an attribute's reading -/
def attK (cf : Cfg) (f : Str) (x : R) (δ : Env) (Q : R → Env → Prop) (X : XX) : Option D → Prop
  | some (.ins c fs) => (match (motive := Option FI → Prop) cf.prp c f with
      | some fi => Ev (noX (callR fi [x])) δ Q X
      | none => (match (motive := Option (List Str) → Option D → Prop) cf.flds c, fs.lookup f with
        | some l, some d => if f ∈ l then Q (.dat d) δ else False
        | _, _ => False))
  | _ => False
@[simp ↓] theorem ev_att {a : ME} {f : Str} {Q : R → Env → Prop} : Ev (evE cf (.att a f)) δ Q X = Ev (evE cf a) δ (fun x δ => attK cf f x δ Q X (vw δ x)) X := by
  rw [evE, ev_bnd]
  apply ev_cq
  intro x δ
  rw [Ev]
  unfold attK
  rcases vw δ x with _ | d
  · rfl
  · cases d with
    | ins c fs =>
      dsimp only
      rcases cf.prp c f with _ | fi
      · dsimp only
        rcases cf.flds c with _ | l
        · rfl
        · rcases List.lookup f fs with _ | d
          · rfl
          · dsimp only
            by_cases h : f ∈ l
            · rw [if_pos h, if_pos h]
            · rw [if_neg h, if_neg h]
      · dsimp only
        unfold Ev noX
        rcases callR fi [x] δ with _ | _ | _ <;> rfl
    | _ => rfl
@[simp ↓] theorem ev_cal {f : Str} {l : List ME} {Q : R → Env → Prop} : Ev (evE cf (.cal f l)) δ Q X = oK (cf.fns f) (fun fi => Ev (evL cf l) δ (fun rs δ => Ev (callR fi rs) δ Q X) X) := by
  rw [evE]
  rcases cf.fns f with _ | fi
  · rfl
  · dsimp only [oK]
    rw [ev_bnd]
@[simp ↓] theorem ev_clv {i : Nat} {l : List ME} {Q : R → Env → Prop} : Ev (evE cf (.clv i l)) δ Q X = match (motive := Option (Option B) → Prop) δ[i]? with
    | some (some (.dat (.fn f))) => oK (cf.fns f) (fun fi => Ev (evL cf l) δ (fun rs δ => Ev (callR fi rs) δ Q X) X)
    | _ => False := by
  rw [Ev, evE]
  dsimp only
  rcases δ[i]? with _ | _ | d | d
  · rfl
  · rfl
  · cases d with
    | fn f =>
      dsimp only
      rcases cf.fns f with _ | fi
      · rfl
      · dsimp only [oK]
        exact ev_bnd
    | _ => rfl
  · rfl
@[simp ↓] theorem ev_new {c : Str} {l : List ME} {Q : R → Env → Prop} : Ev (evE cf (.new c l)) δ Q X = oK (cf.ini c) (fun fi => Ev (evL cf l) δ (fun rs δ => Ev (gives rs) δ (fun ds δ => Ev (newR fi c ds) δ Q X) X) X) := by
  rw [evE]
  rcases cf.ini c with _ | fi
  · rfl
  · dsimp only [oK]
    rw [ev_bnd]
    apply ev_cq
    intro x δ
    rw [ev_bnd]
@[simp ↓] theorem ev_mth {c m : Str} {o : ME} {l : List ME} {Q : R → Env → Prop} : Ev (evE cf (.mth c m o l)) δ Q X = oK (cf.mth c m) (fun fi => Ev (evE cf o) δ (fun x δ => Ev (isC c m x) δ (fun _ δ => Ev (evL cf l) δ (fun rs δ => Ev (callR fi (x :: rs)) δ Q X) X) X) X) := by
  rw [evE]
  rcases cf.mth c m with _ | fi
  · rfl
  · dsimp only [oK]
    rw [ev_bnd]
    apply ev_cq
    intro x δ
    rw [ev_bnd]
    apply ev_cq
    intro x δ
    rw [ev_bnd]
@[simp ↓] theorem ev_blt {b : Bl} {l : List ME} {Q : R → Env → Prop} : Ev (evE cf (.blt b l)) δ Q X = Ev (evL cf l) δ (fun rs δ => Ev (looks rs (bltD b)) δ Q X) X := by
  rw [evE, ev_bnd]
@[simp ↓] theorem ev_isi {a : ME} {t : Ty} {Q : R → Env → Prop} : Ev (evE cf (.isi a t)) δ Q X = Ev (evE cf a) δ (fun x δ => Ev (look x fun d => (isiD d t).map fun b => .dat (.bl b)) δ Q X) X := by
  rw [evE, ev_bnd]
@[simp ↓] theorem ev_bmt {b : Bm} {o : ME} {l : List ME} {Q : R → Env → Prop} : Ev (evE cf (.bmt b o l)) δ Q X = Ev (evE cf o) δ (fun x δ => Ev (look x (kindD b)) δ (fun _ δ => Ev (evL cf l) δ (fun rs δ => Ev (gives rs) δ (fun ds δ => Ev (look x fun d => bmtD b d ds) δ Q X) X) X) X) X := by
  rw [evE, ev_bnd]
  apply ev_cq
  intro x δ
  rw [ev_bnd]
  apply ev_cq
  intro x δ
  rw [ev_bnd]
  apply ev_cq
  intro x δ
  rw [ev_bnd]
@[simp ↓] theorem ev_pop {i : Nat} {Q : R → Env → Prop} : Ev (evE cf (.pop i)) δ Q X = match (motive := Option (Option B) → Prop) δ[i]? with
    | some (some (.own (.lst l))) => oK l.getLast? (fun d => Q (.dat d) (δ.set i (some (.own (.lst l.dropLast)))))
    | _ => False := by
  rw [Ev, evE]
  dsimp only
  rcases δ[i]? with _ | _ | d | d
  · rfl
  · rfl
  · rfl
  · cases d with
    | lst l =>
      dsimp only
      rcases l.getLast? with _ | d <;> rfl
    | _ => rfl
@[simp ↓] theorem ev_lc {el : ME} {tg : MG} {it : MI} {cd : List ME} {own : List (Str × Nat)} {Q : R → Env → Prop} : Ev (evE cf (.lc el tg it cd own)) δ Q X = Ev (evI cf it) δ (fun items δ => Ev (comp (lcTurn tg (evC cf cd) (evE cf el)) (own.map (·.2)) items) δ (fun l δ =>
    if szOk l.length then Q (.own (.lst l)) δ else False) X) X := by
  rw [evE, ev_bnd]
  apply ev_cq
  intro x δ
  rw [ev_bnd]
  apply ev_cq
  intro x δ
  rw [ev_ite]
  rfl
@[simp ↓] theorem ev_dc {k v : ME} {tg : MG} {it : MI} {cd : List ME} {own : List (Str × Nat)} {Q : R → Env → Prop} : Ev (evE cf (.dc k v tg it cd own)) δ Q X = Ev (evI cf it) δ (fun items δ => Ev (comp (dcTurn tg (evC cf cd) (evE cf k) (evE cf v)) (own.map (·.2)) items) δ (fun l δ =>
    oK (dcPut [] l) (fun kvs => Q (.own (.dct kvs)) δ)) X) X := by
  rw [evE, ev_bnd]
  apply ev_cq
  intro x δ
  rw [ev_bnd]
  apply ev_cq
  intro l δ
  rw [ev_opt]
  rcases dcPut [] l with _ | _ <;> rfl
@[simp ↓] theorem ev_fst {l : List ME} {Q : R → Env → Prop} : Ev (evE cf (.fst l)) δ Q X = Ev (evL cf l) δ (fun rs δ => Ev (looks rs fun ds => (joinF ds).map fun x => .dat (.str x)) δ Q X) X := by
  rw [evE, ev_bnd]
@[simp] theorem ev_l_nil {Q : List R → Env → Prop} : Ev (evL cf []) δ Q X = Q [] δ := rfl
@[simp ↓] theorem ev_l_cons {e : ME} {l : List ME} {Q : List R → Env → Prop} : Ev (evL cf (e :: l)) δ Q X = Ev (evE cf e) δ (fun r δ => Ev (evL cf l) δ (fun rs δ => Q (r :: rs) δ) X) X := by
  rw [evL, ev_bnd]
  apply ev_cq
  intro x δ
  rw [ev_bnd]
  rfl
@[simp] theorem ev_kv_nil {Q : List (Key × D) → Env → Prop} : Ev (evKV cf []) δ Q X = Q [] δ := rfl
@[simp ↓] theorem ev_kv_cons {k v : ME} {l : List (ME × ME)} {Q : List (Key × D) → Env → Prop} : Ev (evKV cf ((k, v) :: l)) δ Q X = Ev (evE cf k) δ (fun x δ => Ev (evE cf v) δ (fun y δ => Ev (look x keyD) δ (fun k δ => Ev (give y) δ (fun d δ =>
    Ev (evKV cf l) δ (fun r δ => Q ((k, d) :: r) δ) X) X) X) X) X := by
  rw [evKV, ev_bnd]
  apply ev_cq
  intro x δ
  rw [ev_bnd]
  apply ev_cq
  intro x δ
  rw [ev_bnd]
  apply ev_cq
  intro x δ
  rw [ev_bnd]
  apply ev_cq
  intro x δ
  rw [ev_bnd]
  rfl
@[simp] theorem ev_c_nil {Q : Bool → Env → Prop} : Ev (evC cf []) δ Q X = Q true δ := rfl
@[simp ↓] theorem ev_c_cons {e : ME} {l : List ME} {Q : Bool → Env → Prop} : Ev (evC cf (e :: l)) δ Q X = Ev (tst (evE cf e)) δ Q X := by
  rw [evC]
@[simp ↓] theorem ev_seq {e : ME} {Q : List D → Env → Prop} : Ev (evI cf (.seq e)) δ Q X = Ev (evE cf e) δ (fun r δ => Ev (give r) δ (fun d δ => Ev (M.opt (seqD d)) δ Q X) X) X := by
  rw [evI, ev_bnd]
  apply ev_cq
  intro x δ
  rw [ev_bnd]
@[simp ↓] theorem ev_rg1 {e : ME} {Q : List D → Env → Prop} : Ev (evI cf (.rg1 e)) δ Q X = Ev (evE cf e) δ (fun r δ => Ev (look r rg1D) δ Q X) X := by
  rw [evI, ev_bnd]
@[simp ↓] theorem ev_rg2 {a b : ME} {Q : List D → Env → Prop} : Ev (evI cf (.rg2 a b)) δ Q X = Ev (evE cf a) δ (fun r δ => Ev (evE cf b) δ (fun s δ => Ev (look2 r s rg2D) δ Q X) X) X := by
  rw [evI, ev_bnd]
  apply ev_cq
  intro x δ
  rw [ev_bnd]
@[simp ↓] theorem ev_enu {e : ME} {Q : List D → Env → Prop} : Ev (evI cf (.enu e)) δ Q X = Ev (evE cf e) δ (fun r δ => Ev (give r) δ (fun d δ => Ev (M.opt ((seqD d).map (enumD · 0))) δ Q X) X) X := by
  rw [evI, ev_bnd]
  apply ev_cq
  intro x δ
  rw [ev_bnd]
@[simp ↓] theorem ev_zip {a b : ME} {Q : List D → Env → Prop} : Ev (evI cf (.zip a b)) δ Q X = Ev (evE cf a) δ (fun r δ => Ev (evE cf b) δ (fun s δ => Ev (gives [r, s]) δ (fun ds δ => Ev (M.opt (zipL ds)) δ Q X) X) X) X := by
  rw [evI, ev_bnd, ev_bnd]
  apply ev_cq
  intro x δ
  rw [ev_bnd, ev_bnd]
  apply ev_cq
  intro y δ
  rw [ev_bnd]
  rw [ev_ret, ev_ret, ev_ret, ev_bnd]
@[simp ↓] theorem ev_its {e : ME} {Q : List D → Env → Prop} : Ev (evI cf (.its e)) δ Q X = Ev (evE cf e) δ (fun r δ => Ev (give r) δ (fun d δ => Ev (M.opt (itsD d)) δ Q X) X) X := by
  rw [evI, ev_bnd]
  apply ev_cq
  intro x δ
  rw [ev_bnd]
end
end Rl

set_option Elab.async false
set_option linter.all false
set_option maxRecDepth 100000
set_option maxHeartbeats 4000000
/-! Pl B: statements, calls, loops, comprehensions. -/
namespace Rl
open PySem L2
section
variable {α β : Type} {δ : Env} {X : XX} {cf : Cfg} {F : Nat} {keep : Nat → Bool}
/-- behind a statement -/
def seqK (cf : Cfg) (F : Nat) (keep : Nat → Bool) (r : List MS) (Q : Fl → Env → Prop) (X : XX) : Fl → Env → Prop := fun fl δ => match fl with
  | .nx => Ev (evSs cf F keep r) δ Q X
  | .rt v => Q (.rt v) δ
@[simp] theorem seqK_nx {r : List MS} {Q : Fl → Env → Prop} : seqK cf F keep r Q X .nx δ = Ev (evSs cf F keep r) δ Q X := rfl
@[simp] theorem seqK_rt {r : List MS} {Q : Fl → Env → Prop} {v : R} : seqK cf F keep r Q X (.rt v) δ = Q (.rt v) δ := rfl
@[simp] theorem ev_ss_nil {Q : Fl → Env → Prop} : Ev (evSs cf F keep []) δ Q X = Q .nx δ := rfl
@[simp ↓] theorem ev_ss_cons {s : MS} {r : List MS} {Q : Fl → Env → Prop} : Ev (evSs cf F keep (s :: r)) δ Q X = Ev (evS cf F keep s) δ (seqK cf F keep r Q X) X := by
  rw [evSs, ev_bnd]
  apply ev_cq
  intro fl δ
  cases fl <;> rfl
@[simp] theorem ev_put_dat {i : Nat} {d : D} {Q : Fl → Env → Prop} : Ev (put keep i (.dat d)) δ Q X = if keep i || decide (δ.length ≤ i) then False else Q .nx (δ.set i (some (.dat d))) := by
  unfold Ev put
  dsimp only
  cases h : (keep i || decide (δ.length ≤ i)) <;> simp
@[simp] theorem ev_put_own {i : Nat} {d : D} {Q : Fl → Env → Prop} : Ev (put keep i (.own d)) δ Q X = if keep i || decide (δ.length ≤ i) then False else Q .nx (δ.set i (some (.own d))) := by
  unfold Ev put
  dsimp only
  cases h : (keep i || decide (δ.length ≤ i)) <;> simp
@[simp] theorem ev_put_bor {i j : Nat} {Q : Fl → Env → Prop} : Ev (put keep i (.bor j)) δ Q X = if keep i || decide (δ.length ≤ i) then False else Ev (give (.bor j)) δ (fun d δ => Q .nx (δ.set i (some (.dat d)))) X := by
  by_cases h : (keep i || decide (δ.length ≤ i)) = true
  · unfold Ev put
    simp [h]
  · rw [if_neg h]
    have : put keep i (.bor j) δ = M.bnd (give (.bor j)) (fun d δ => some (.ok .nx (δ.set i (some (.dat d))))) δ := by
      unfold put
      rw [if_neg h]
    rw [Ev, this]
    exact ev_bnd
@[simp ↓] theorem ev_set {i : Nat} {e : ME} {Q : Fl → Env → Prop} : Ev (evS cf F keep (.set i e)) δ Q X = Ev (evE cf e) δ (fun r δ => Ev (put keep i r) δ Q X) X := by
  rw [evS, ev_bnd]
@[simp] theorem ev_stay_nil {Q : List R → Env → Prop} : Ev (stay []) δ Q X = Q [] δ := rfl
@[simp] theorem ev_stay_dat {d : D} {rs : List R} {Q : List R → Env → Prop} : Ev (stay (.dat d :: rs)) δ Q X = Ev (stay rs) δ (fun l δ => Q (.dat d :: l) δ) X := by
  show Ev (M.bnd (stay rs) fun l => M.ret (.dat d :: l)) δ Q X = _
  rw [ev_bnd]
  rfl
@[simp] theorem ev_stay_own {d : D} {rs : List R} {Q : List R → Env → Prop} : Ev (stay (.own d :: rs)) δ Q X = Ev (stay rs) δ (fun l δ => Q (.own d :: l) δ) X := by
  show Ev (M.bnd (stay rs) fun l => M.ret (.own d :: l)) δ Q X = _
  rw [ev_bnd]
  rfl
@[simp] theorem ev_stay_bor {j : Nat} {rs : List R} {Q : List R → Env → Prop} : Ev (stay (.bor j :: rs)) δ Q X = Ev (give (.bor j)) δ (fun d δ => Ev (stay rs) δ (fun l δ => Q (.dat d :: l) δ) X) X := by
  show Ev (M.bnd (give (.bor j)) fun d => M.bnd (stay rs) fun l => M.ret (.dat d :: l)) δ Q X = _
  rw [ev_bnd]
  apply ev_cq
  intro d δ
  rw [ev_bnd]
  rfl
@[simp] theorem ev_putT_nil {Q : Fl → Env → Prop} : Ev (putT cf keep [] []) δ Q X = Q .nx δ := rfl
@[simp ↓] theorem ev_putT_nm {i : Nat} {r : R} {ts : List MT} {rs : List R} {Q : Fl → Env → Prop} : Ev (putT cf keep (.nm i :: ts) (r :: rs)) δ Q X = Ev (put keep i r) δ (fun _ δ => Ev (putT cf keep ts rs) δ Q X) X := by
  rw [putT, ev_bnd]
@[simp ↓] theorem ev_putT_sb {i : Nat} {ix : ME} {r : R} {ts : List MT} {rs : List R} {Q : Fl → Env → Prop} : Ev (putT cf keep (.sb i ix :: ts) (r :: rs)) δ Q X = Ev (give r) δ (fun v δ => Ev (ownI i) δ (fun _ δ => Ev (evE cf ix) δ (fun k δ => Ev (look k some) δ (fun k δ =>
    Ev (chg i fun c => storeD c k v) δ (fun _ δ => Ev (putT cf keep ts rs) δ Q X) X) X) X) X) X := by
  rw [putT, ev_bnd]
  apply ev_cq
  intro d δ
  rw [ev_bnd]
  apply ev_cq
  intro d δ
  rw [ev_bnd]
  apply ev_cq
  intro d δ
  rw [ev_bnd]
  apply ev_cq
  intro d δ
  rw [ev_bnd]
@[simp] theorem ev_ownI {i : Nat} {Q : Unit → Env → Prop} : Ev (ownI i) δ Q X = match (motive := Option (Option B) → Prop) δ[i]? with
    | some (some (.own _)) => Q () δ
    | _ => False := by
  unfold Ev ownI
  rcases δ[i]? with _ | _ | _ | _ <;> rfl
@[simp] theorem ev_chg {i : Nat} {f : D → Option D} {Q : Fl → Env → Prop} : Ev (chg i f) δ Q X = match (motive := Option (Option B) → Prop) δ[i]? with
    | some (some (.own d)) => oK (f d) (fun d' => Q .nx (δ.set i (some (.own d'))))
    | _ => False := by
  unfold Ev chg
  rcases δ[i]? with _ | _ | _ | d
  · rfl
  · rfl
  · rfl
  · dsimp only
    rcases f d with _ | _ <;> rfl
@[simp ↓] theorem ev_noX {m : M α} {Q : α → Env → Prop} : Ev (noX m) δ Q X = Ev m δ Q nox := by
  unfold Ev noX
  rcases m δ with _ | _ | _ <;> rfl
/-- neither an instance nor a dict -/
def plO : Option D → Bool
  | some (.ins _ _) => false
  | some (.dct _) => false
  | _ => true
@[simp] theorem plO_none : plO none = true := rfl
@[simp] theorem plO_non : plO (some .non) = true := rfl
@[simp] theorem plO_bl {b : Bool} : plO (some (.bl b)) = true := rfl
@[simp] theorem plO_int {b : Int} : plO (some (.int b)) = true := rfl
@[simp] theorem plO_str {b : Str} : plO (some (.str b)) = true := rfl
@[simp] theorem plO_tup {b : List D} : plO (some (.tup b)) = true := rfl
@[simp] theorem plO_lst {b : List D} : plO (some (.lst b)) = true := rfl
@[simp] theorem plO_ctp {b : List D} : plO (some (.ctp b)) = true := rfl
@[simp] theorem ev_cmpR {o : CO} {x y : R} {Q : R → Env → Prop} (h : plO (vw δ x) = true) : Ev (cmpR cf o x y) δ Q X = oK (vw δ x) (fun d => oK (vw δ y) (fun e => oK (cmpD o d e) (fun b => Q (.dat (.bl b)) δ))) := by
  unfold Ev cmpR
  rcases hx : vw δ x with _ | d
  · rfl
  · rcases hy : vw δ y with _ | e
    · cases d <;> rfl
    · cases d with
      | ins c fs => rw [hx] at h; cases h
      | dct l => rw [hx] at h; cases h
      | _ =>
        dsimp only [oK]
        rcases cmpD o _ e with _ | b <;> rfl
@[simp ↓] theorem ev_par {ts : List MT} {es : List ME} {Q : Fl → Env → Prop} : Ev (evS cf F keep (.par ts es)) δ Q X = Ev (evL cf es) δ (fun rs δ => Ev (stay rs) δ (fun rs δ => Ev (putT cf keep ts rs) δ Q nox) X) X := by
  rw [evS, ev_bnd]
  apply ev_cq
  intro d δ
  rw [ev_bnd]
  apply ev_cq
  intro d δ
  rw [ev_noX]
@[simp] theorem ev_setN {l : List Nat} {d : D} {Q : Fl → Env → Prop} : Ev (setN keep l d) δ Q X = if l.any keep then False else oK (setG (.many l) d δ) (fun δ => Q .nx δ) := by
  unfold Ev setN
  by_cases h : l.any keep = true
  · simp [h]
  · rw [if_neg h, if_neg h]
    rcases setG (.many l) d δ with _ | _ <;> rfl
@[simp ↓] theorem ev_unp {l : List Nat} {e : ME} {Q : Fl → Env → Prop} : Ev (evS cf F keep (.unp l e)) δ Q X = Ev (evE cf e) δ (fun r δ => Ev (give r) δ (fun d δ => Ev (setN keep l d) δ Q X) X) X := by
  rw [evS, ev_bnd]
  apply ev_cq
  intro d δ
  rw [ev_bnd]
@[simp ↓] theorem ev_sto {i : Nat} {ix e : ME} {Q : Fl → Env → Prop} : Ev (evS cf F keep (.sto i ix e)) δ Q X = Ev (evE cf e) δ (fun r δ => Ev (give r) δ (fun v δ => Ev (ownI i) δ (fun _ δ => Ev (evE cf ix) δ (fun k δ => Ev (look k some) δ (fun k δ =>
    Ev (chg i fun c => storeD c k v) δ Q X) X) X) X) X) X := by
  rw [evS, ev_bnd]
  apply ev_cq
  intro d δ
  rw [ev_bnd]
  apply ev_cq
  intro d δ
  rw [ev_bnd]
  apply ev_cq
  intro d δ
  rw [ev_bnd]
  apply ev_cq
  intro d δ
  rw [ev_bnd]
@[simp ↓] theorem ev_fld {i : Nat} {f : Str} {e : ME} {Q : Fl → Env → Prop} : Ev (evS cf F keep (.fld i f e)) δ Q X = Ev (evE cf e) δ (fun r δ => Ev (give r) δ (fun v δ => Ev (chg i (fldS cf f v)) δ Q X) X) X := by
  rw [evS, ev_bnd]
  apply ev_cq
  intro d δ
  rw [ev_bnd]
@[simp ↓] theorem ev_app {i : Nat} {e : ME} {Q : Fl → Env → Prop} : Ev (evS cf F keep (.app i e)) δ Q X = match (motive := Option (Option B) → Prop) δ[i]? with
    | some (some (.own (.lst _))) => Ev (evE cf e) δ (fun r δ => Ev (give r) δ (fun v δ => Ev (chg i (appD v)) δ Q X) X) X
    | _ => False := by
  rw [Ev, evS]
  dsimp only
  rcases δ[i]? with _ | _ | d | d
  · rfl
  · rfl
  · rfl
  · cases d with
    | lst l =>
      dsimp only
      show Ev (M.bnd (evE cf e) fun r => M.bnd (give r) fun v => chg i (appD v)) δ Q X = _
      rw [ev_bnd]
      apply ev_cq
      intro d δ
      rw [ev_bnd]
    | _ => rfl
@[simp ↓] theorem ev_exp {e : ME} {Q : Fl → Env → Prop} : Ev (evS cf F keep (.exp e)) δ Q X = Ev (evE cf e) δ (fun _ δ => Q .nx δ) X := by
  rw [evS, ev_bnd]
  rfl
@[simp ↓] theorem ev_iteS {c : ME} {a b : List MS} {Q : Fl → Env → Prop} : Ev (evS cf F keep (.ite c a b)) δ Q X = Ev (tst (evE cf c)) δ (fun k δ => Ev (if k then evSs cf F keep a else evSs cf F keep b) δ Q X) X := by
  rw [evS, ev_bnd]
@[simp ↓] theorem ev_whl {c : ME} {b : List MS} {Q : Fl → Env → Prop} : Ev (evS cf F keep (.whl c b)) δ Q X = Ev (whlM (tst (evE cf c)) (evSs cf F keep b) F) δ Q X := by
  rw [evS]
@[simp ↓] theorem ev_fr {tg : MG} {it : MI} {b : List MS} {Q : Fl → Env → Prop} : Ev (evS cf F keep (.fr tg it b)) δ Q X = Ev (evI cf it) δ (fun l δ => Ev (frM keep tg (evSs cf F keep b) l) δ Q X) X := by
  rw [evS, ev_bnd]
@[simp] theorem ev_out_dat {d : D} {Q : Fl → Env → Prop} : Ev (out keep (.dat d)) δ Q X = Q (.rt (.dat d)) δ := rfl
@[simp] theorem ev_out_own {d : D} {Q : Fl → Env → Prop} : Ev (out keep (.own d)) δ Q X = Q (.rt (.own d)) δ := rfl
@[simp] theorem ev_out_bor {i : Nat} {Q : Fl → Env → Prop} : Ev (out keep (.bor i)) δ Q X = match (motive := Option (Option B) → Prop) δ[i]? with
    | some (some (.own d)) => if keep i then False else Q (.rt (.own d)) (δ.set i none)
    | some (some (.dat d)) => Q (.rt (.dat d)) δ
    | _ => False := by
  unfold Ev out
  dsimp only
  rcases δ[i]? with _ | _ | d | d
  · rfl
  · rfl
  · rfl
  · dsimp only
    by_cases h : keep i = true
    · simp [h]
    · simp [h]
@[simp ↓] theorem ev_retS {e : ME} {Q : Fl → Env → Prop} : Ev (evS cf F keep (.ret e)) δ Q X = Ev (evE cf e) δ (fun r δ => Ev (out keep r) δ Q X) X := by
  rw [evS, ev_bnd]
@[simp ↓] theorem ev_rtn {Q : Fl → Env → Prop} : Ev (evS cf F keep .rtn) δ Q X = Q (.rt (.dat .non)) δ := by
  rw [evS]
  rfl
@[simp ↓] theorem ev_nev {Q : Fl → Env → Prop} : Ev (evS cf F keep .nev) δ Q X = False := by
  rw [evS]
  rfl
@[simp ↓] theorem ev_pas {Q : Fl → Env → Prop} : Ev (evS cf F keep .pas) δ Q X = Q .nx δ := by
  rw [evS]
  rfl
@[simp ↓] theorem ev_rai {c : Str} {l : List ME} {Q : Fl → Env → Prop} : Ev (evS cf F keep (.rai c l)) δ Q X = oK (cf.exc c) (fun fl => if l.length = fl.length then Ev (evL cf l) δ (fun rs δ => Ev (gives rs) δ (fun ds δ => oK (excF fl ds) (fun fs => X c fs δ)) X) X else False) := by
  rw [evS]
  rcases cf.exc c with _ | fl
  · rfl
  · dsimp only
    show Ev (if l.length = fl.length then raiM c fl (evL cf l) else M.stuck) δ Q X = if l.length = fl.length then _ else False
    by_cases hl : l.length = fl.length
    · rw [if_pos hl, if_pos hl]
      unfold raiM
      rw [ev_bnd]
      apply ev_cq
      intro d δ
      rw [ev_bnd]
      apply ev_cq
      intro ds δ
      unfold Ev
      rcases excF fl ds with _ | _ <;> rfl
    · rw [if_neg hl, if_neg hl]
      rfl
@[simp ↓] theorem ev_tri {b : List MS} {hs : List HC} {Q : Fl → Env → Prop} : Ev (evS cf F keep (.tri b hs)) δ Q X = if (hs.all fun h => cf.hcl h.cls) = true then Ev (evSs cf F keep b) δ Q (fun c fs δ => Ev (hdl cf keep hs c fs) δ Q X) else False := by
  rw [evS]
  unfold Ev triM
  dsimp only
  by_cases h : (hs.all fun h => cf.hcl h.cls) = true
  · rw [if_pos h, if_pos h]
    rcases evSs cf F keep b δ with _ | _ | _ <;> rfl
  · rw [if_neg h, if_neg h]
theorem ev_hdl_nil {c : Str} {fs : List (Str × D)} {Q : Fl → Env → Prop} : Ev (hdl cf keep [] c fs) δ Q X = X c fs δ := rfl
theorem ev_hdl_no {h : HC} {l : List HC} {c : Str} {fs : List (Str × D)} {Q : Fl → Env → Prop} (e : cf.exm c h.cls = some false) : Ev (hdl cf keep (h :: l) c fs) δ Q X = Ev (hdl cf keep l c fs) δ Q X := by
  rw [hdl, e]
theorem ev_hdl_yes {h : HC} {l : List HC} {c : Str} {fs : List (Str × D)} {fl : List Str} {Q : Fl → Env → Prop} (e : cf.exm c h.cls = some true) (e2 : cf.exc c = some fl) : Ev (hdl cf keep (h :: l) c fs) δ Q X = oK (hxR fl fs h.e) (fun r => Ev (hput keep h.nm h.to r) δ Q X) := by
  rw [hdl, e, e2]
  dsimp only
  rcases hxR fl fs h.e with _ | _ <;> rfl
@[simp ↓] theorem ev_aug {i : Nat} {o : BO} {e : ME} {Q : Fl → Env → Prop} : Ev (evS cf F keep (.aug i o e)) δ Q X = match (motive := Option (Option B) → Prop) δ[i]? with
    | some (some (.dat d)) => Ev (evE cf e) δ (fun r δ => Ev (look r some) δ (fun y δ => match (motive := Option R → Prop) binD o d y with
      | some (.dat z) => Ev (put keep i (.dat z)) δ Q X
      | _ => False) X) X
    | _ => False := by
  rw [Ev, evS]
  dsimp only
  rcases δ[i]? with _ | _ | d | d
  · rfl
  · rfl
  · dsimp only
    show Ev (M.bnd (evE cf e) _) δ Q X = _
    rw [ev_bnd]
    apply ev_cq
    intro r δ
    rw [ev_bnd]
    apply ev_cq
    intro y δ
    rcases binD o d y with _ | _ | _ | _ <;> rfl
  · rfl
/-! loops -/
theorem ev_frM_nil {tg : MG} {b : M Fl} {Q : Fl → Env → Prop} : Ev (frM keep tg b []) δ Q X = Q .nx δ := rfl
def keepG (keep : Nat → Bool) : MG → Bool
  | .one i => keep i
  | .many l => l.any keep
theorem ev_frM_cons {tg : MG} {b : M Fl} {d : D} {r : List D} {Q : Fl → Env → Prop} : Ev (frM keep tg b (d :: r)) δ Q X = if keepG keep tg then False else oK (setG tg d δ) (fun δ => Ev b δ (fun fl δ => match fl with
      | .nx => Ev (frM keep tg b r) δ Q X
      | .rt v => Q (.rt v) δ) X) := by
  have key : frM keep tg b (d :: r) δ = if keepG keep tg = true then none else (match (motive := Option Env → Option (Res Fl)) setG tg d δ with
      | some δ => M.bnd b (fun fl => match fl with | .nx => frM keep tg b r | .rt r => M.ret (.rt r)) δ
      | none => none) := by
    rw [frM.eq_def]
    cases tg with
    | one i =>
      dsimp only
      split
      · rename_i h1 h2
        rw [if_neg (by rw [show keepG keep (.one i) = false from h1]; exact Bool.false_ne_true), h2]
        all_goals rfl
      · rename_i x
        by_cases hk : keepG keep (.one i) = true
        · rw [if_pos hk]
        · rw [if_neg hk]
          rcases hs : setG (.one i) d δ with _ | δ1
          · rfl
          · exact (x δ1 (Bool.eq_false_iff.mpr hk) hs).elim
    | many l =>
      dsimp only
      split
      · rename_i h1 h2
        rw [if_neg (by rw [show keepG keep (.many l) = false from h1]; exact Bool.false_ne_true), h2]
        all_goals rfl
      · rename_i x
        by_cases hk : keepG keep (.many l) = true
        · rw [if_pos hk]
        · rw [if_neg hk]
          rcases hs : setG (.many l) d δ with _ | δ1
          · rfl
          · exact (x δ1 (Bool.eq_false_iff.mpr hk) hs).elim
  rw [Ev, key]
  by_cases h : keepG keep tg = true
  · rw [if_pos h, if_pos h]
  · rw [if_neg h, if_neg h]
    rcases setG tg d δ with _ | δ1
    · rfl
    · dsimp only
      show Ev (M.bnd b (fun fl => match fl with | .nx => frM keep tg b r | .rt r => M.ret (.rt r))) δ1 Q X = _
      rw [ev_bnd]
      apply ev_cq
      intro fl δ
      cases fl <;> rfl
/-- a loop by an invariant over what is left -/
theorem ev_frM {tg : MG} {b : M Fl} {items : List D} {Q : Fl → Env → Prop} (I : List D → Env → Prop) (hk : keepG keep tg = false) (h0 : I items δ)
    (step : ∀ d r δ, I (d :: r) δ → ∃ δ1, setG tg d δ = some δ1 ∧ Ev b δ1 (fun fl δ => match fl with | .nx => I r δ | .rt v => Q (.rt v) δ) X)
    (post : ∀ δ, I [] δ → Q .nx δ) : Ev (frM keep tg b items) δ Q X := by
  induction items generalizing δ with
  | nil => exact post δ h0
  | cons d r ih =>
    rw [ev_frM_cons, if_neg (by rw [hk]; exact Bool.false_ne_true)]
    obtain ⟨δ1, h1, h2⟩ := step d r δ h0
    rw [h1]
    refine Ev.mono h2 (fun fl δ h => ?_) fun _ _ _ h => h
    cases fl with
    | nx => exact ih h
    | rt v => exact h
/-- a loop over items made of x's -/
theorem ev_frM_map {τ : Type} {tg : MG} {b : M Fl} {f : τ → D} {xs : List τ} {Q : Fl → Env → Prop} (I : List τ → Env → Prop) (hk : keepG keep tg = false) (h0 : I xs δ)
    (step : ∀ x r δ, I (x :: r) δ → ∃ δ1, setG tg (f x) δ = some δ1 ∧ Ev b δ1 (fun fl δ => match fl with | .nx => I r δ | .rt v => Q (.rt v) δ) X)
    (post : ∀ δ, I [] δ → Q .nx δ) : Ev (frM keep tg b (xs.map f)) δ Q X := by
  induction xs generalizing δ with
  | nil => exact post δ h0
  | cons d r ih =>
    rw [List.map_cons, ev_frM_cons, if_neg (by rw [hk]; exact Bool.false_ne_true)]
    obtain ⟨δ1, h1, h2⟩ := step d r δ h0
    rw [h1]
    refine Ev.mono h2 (fun fl δ h => ?_) fun _ _ _ h => h
    cases fl with
    | nx => exact ih h
    | rt v => exact h
theorem ev_whlM_succ {c : M Bool} {b : M Fl} {n : Nat} {Q : Fl → Env → Prop} : Ev (whlM c b (n + 1)) δ Q X = Ev c δ (fun k δ => if k then Ev b δ (fun fl δ => match fl with | .nx => Ev (whlM c b n) δ Q X | .rt v => Q (.rt v) δ) X else Q .nx δ) X := by
  rw [whlM, ev_bnd]
  apply ev_cq
  intro k δ
  cases k
  · rw [if_neg Bool.false_ne_true, if_neg Bool.false_ne_true]
    rfl
  · rw [if_pos rfl, if_pos rfl, ev_bnd]
    apply ev_cq
    intro fl δ
    cases fl <;> rfl
/-- a while by an invariant with a measure below the fuel -/
theorem ev_whlM {c : M Bool} {b : M Fl} {n : Nat} {Q : Fl → Env → Prop} (I : Nat → Env → Prop) (m : Nat) (hm : m < n) (h0 : I m δ)
    (step : ∀ m δ, I m δ → Ev c δ (fun k δ => if k then Ev b δ (fun fl δ => match fl with | .nx => ∃ m', m' < m ∧ I m' δ | .rt v => Q (.rt v) δ) X else Q .nx δ) X) : Ev (whlM c b n) δ Q X := by
  induction n generalizing m δ with
  | zero => omega
  | succ n ih =>
    rw [ev_whlM_succ]
    refine Ev.mono (step m δ h0) (fun k δ h => ?_) fun _ _ _ h => h
    split
    · rename_i hk
      rw [if_pos hk] at h
      refine Ev.mono h (fun fl δ h => ?_) fun _ _ _ h => h
      cases fl with
      | nx =>
        obtain ⟨m', h1, h2⟩ := h
        exact ih m' (by omega) h2
      | rt v => exact h
    · rename_i hk
      rw [if_neg hk] at h
      exact h
/-! comprehensions -/
theorem ev_lcTurn {tg : MG} {c : M Bool} {e : M R} {d : D} {Q : Option D → Env → Prop} : Ev (lcTurn tg c e d) δ Q X = oK (setG tg d δ) (fun δ => Ev c δ (fun k δ => if k then Ev e δ (fun r δ => Ev (give r) δ (fun d δ => Q (some d) δ) X) X else Q none δ) X) := by
  rw [Ev, lcTurn]
  rcases setG tg d δ with _ | δ1
  · rfl
  · dsimp only
    show Ev (M.bnd c _) δ1 Q X = _
    rw [ev_bnd]
    apply ev_cq
    intro k δ
    cases k
    · rw [if_neg Bool.false_ne_true, if_neg Bool.false_ne_true]
      rfl
    · rw [if_pos rfl, if_pos rfl, ev_bnd]
      apply ev_cq
      intro r δ
      rw [ev_bnd]
      rfl
theorem ev_dcTurn {tg : MG} {c : M Bool} {k v : M R} {d : D} {Q : Option (Key × D) → Env → Prop} : Ev (dcTurn tg c k v d) δ Q X = oK (setG tg d δ) (fun δ => Ev c δ (fun b δ => if b then Ev k δ (fun r δ => Ev (look r keyD) δ (fun key δ => Ev v δ (fun s δ => Ev (give s) δ (fun e δ => Q (some (key, e)) δ) X) X) X) X else Q none δ) X) := by
  rw [Ev, dcTurn]
  rcases setG tg d δ with _ | δ1
  · rfl
  · dsimp only
    show Ev (M.bnd c _) δ1 Q X = _
    rw [ev_bnd]
    apply ev_cq
    intro b δ
    cases b
    · rw [if_neg Bool.false_ne_true, if_neg Bool.false_ne_true]
      rfl
    · rw [if_pos rfl, if_pos rfl, ev_bnd]
      apply ev_cq
      intro r δ
      rw [ev_bnd]
      apply ev_cq
      intro r δ
      rw [ev_bnd]
      apply ev_cq
      intro r δ
      rw [ev_bnd]
      rfl
theorem wipe_len : ∀ {vs : List Nat} {δ : Env}, (wipeD δ vs).length = δ.length
  | [], _ => rfl
  | i :: r, δ => by
    show ((wipeD δ r).set i none).length = _
    rw [List.length_set, wipe_len]
theorem wipe_get : ∀ {vs : List Nat} {δ : Env} {i : Nat}, (wipeD δ vs)[i]? = if i ∈ vs ∧ i < δ.length then some none else δ[i]?
  | [], δ, i => by simp [wipeD]
  | j :: r, δ, i => by
    show ((wipeD δ r).set j none)[i]? = _
    rw [List.getElem?_set, wipe_get, wipe_len]
    by_cases h : j = i
    · subst h
      by_cases hl : j < δ.length
      · simp [hl]
      · simp only [hl, if_true, if_false, and_false, if_false]
        exact (List.getElem?_eq_none (by omega)).symm
    · rw [if_neg h]
      have : (i ∈ j :: r) = (i ∈ r) := by
        simp [Ne.symm h]
      simp only [this]
theorem back_len : ∀ {vs : List Nat} {δ δ1 : Env}, (backD δ δ1 vs).length = δ1.length
  | [], _, _ => rfl
  | i :: r, δ, δ1 => by
    show ((backD δ δ1 r).set i _).length = _
    rw [List.length_set, back_len]
theorem back_get : ∀ {vs : List Nat} {δ δ1 : Env} {i : Nat}, (backD δ δ1 vs)[i]? = if i ∈ vs ∧ i < δ1.length then some (δ.getD i none) else δ1[i]?
  | [], _, δ, i => by simp [backD]
  | j :: r, δ, δ1, i => by
    show ((backD δ δ1 r).set j _)[i]? = _
    rw [List.getElem?_set, back_get, back_len]
    by_cases h : j = i
    · subst h
      by_cases hl : j < δ1.length
      · simp [hl]
      · simp only [hl, if_true, if_false, and_false, if_false]
        exact (List.getElem?_eq_none (by omega)).symm
    · rw [if_neg h]
      have : (i ∈ j :: r) = (i ∈ r) := by
        simp [Ne.symm h]
      simp only [this]
theorem back_wipe {vs : List Nat} {δ δ1 : Env} (h : wipeD δ1 vs = wipeD δ vs) : backD δ δ1 vs = δ := by
  have hl : δ1.length = δ.length := by
    have := congrArg List.length h
    rwa [wipe_len, wipe_len] at this
  apply List.ext_getElem?
  intro i
  rw [back_get]
  by_cases hi : i ∈ vs ∧ i < δ1.length
  · rw [if_pos hi]
    have hlt : i < δ.length := by omega
    rw [List.getD_eq_getElem?_getD, List.getElem?_eq_getElem hlt]
    rfl
  · rw [if_neg hi]
    have h2 := congrArg (fun l : Env => l[i]?) h
    simp only [wipe_get] at h2
    rw [if_neg hi, if_neg (by rw [← hl]; exact hi)] at h2
    exact h2
theorem wipe_wipe {vs : List Nat} {δ : Env} : wipeD (wipeD δ vs) vs = wipeD δ vs := by
  apply List.ext_getElem?
  intro i
  rw [wipe_get, wipe_len, wipe_get]
  split <;> rfl
theorem compLoop_ok {turn : D → M (Option α)} {vs : List Nat} (g : D → Option α) : ∀ {items : List D} {δ : Env} {acc : List α},
    (∀ d ∈ items, Ev (turn d) (wipeD δ vs) (fun o δ' => o = g d ∧ wipeD δ' vs = wipeD δ vs) nox) → ∃ δ', compLoop turn vs items δ acc = some (acc ++ items.filterMap g, δ') ∧ wipeD δ' vs = wipeD δ vs
  | [], δ, acc, _ => ⟨δ, by simp [compLoop], rfl⟩
  | d :: r, δ, acc, h => by
    have h1 := h d List.mem_cons_self
    unfold Ev at h1
    split at h1
    · rename_i o δ1 e
      obtain ⟨h2, h3⟩ := h1
      unfold compLoop
      rw [e]
      have ih := fun acc => compLoop_ok (turn := turn) (vs := vs) g (items := r) (δ := δ1) (acc := acc) (fun d' hd => by
        rw [h3]
        exact h d' (List.mem_cons_of_mem _ hd))
      cases o with
      | none =>
        dsimp only [noEx]
        obtain ⟨δ', q1, q2⟩ := ih acc
        refine ⟨δ', ?_, q2.trans h3⟩
        rw [q1, List.filterMap_cons, ← h2]
      | some a =>
        dsimp only [noEx]
        obtain ⟨δ', q1, q2⟩ := ih (acc ++ [a])
        refine ⟨δ', ?_, q2.trans h3⟩
        rw [q1, List.filterMap_cons, ← h2]
        simp
    · exact h1.elim
    · exact h1.elim
theorem ev_comp {turn : D → M (Option α)} {vs : List Nat} {items : List D} {Q : List α → Env → Prop} (g : D → Option α) (ho : vs.any (ownAt δ) = false)
    (h : ∀ d ∈ items, Ev (turn d) (wipeD δ vs) (fun o δ' => o = g d ∧ wipeD δ' vs = wipeD δ vs) nox) (q : Q (items.filterMap g) δ) : Ev (comp turn vs items) δ Q X := by
  obtain ⟨δ', h1, h2⟩ := compLoop_ok g (acc := []) h
  unfold Ev comp
  rw [ho, h1, if_neg Bool.false_ne_true]
  dsimp only
  rw [back_wipe h2]
  exact q
theorem ev_comp_map {τ : Type} {turn : D → M (Option α)} {vs : List Nat} {f : τ → D} {xs : List τ} {Q : List α → Env → Prop} (g : τ → Option α) (ho : vs.any (ownAt δ) = false)
    (h : ∀ x ∈ xs, Ev (turn (f x)) (wipeD δ vs) (fun o δ' => o = g x ∧ wipeD δ' vs = wipeD δ vs) nox) (q : Q (xs.filterMap g) δ) : Ev (comp turn vs (xs.map f)) δ Q X := by
  have key : ∀ {xs : List τ} {δ : Env} {acc : List α}, (∀ x ∈ xs, Ev (turn (f x)) (wipeD δ vs) (fun o δ' => o = g x ∧ wipeD δ' vs = wipeD δ vs) nox) → ∃ δ', compLoop turn vs (xs.map f) δ acc = some (acc ++ xs.filterMap g, δ') ∧ wipeD δ' vs = wipeD δ vs := by
    intro xs
    induction xs with
    | nil => intro δ acc _; exact ⟨δ, by simp [compLoop], rfl⟩
    | cons x r ih =>
      intro δ acc h
      have h1 := h x List.mem_cons_self
      unfold Ev at h1
      split at h1
      · rename_i o δ1 e
        obtain ⟨h2, h3⟩ := h1
        rw [List.map_cons]
        unfold compLoop
        rw [e]
        have ih := fun acc => ih (δ := δ1) (acc := acc) (fun d' hd => by
          rw [h3]
          exact h d' (List.mem_cons_of_mem _ hd))
        cases o with
        | none =>
          dsimp only [noEx]
          obtain ⟨δ', q1, q2⟩ := ih acc
          refine ⟨δ', ?_, q2.trans h3⟩
          rw [q1, List.filterMap_cons, ← h2]
        | some a =>
          dsimp only [noEx]
          obtain ⟨δ', q1, q2⟩ := ih (acc ++ [a])
          refine ⟨δ', ?_, q2.trans h3⟩
          rw [q1, List.filterMap_cons, ← h2]
          simp
      · exact h1.elim
      · exact h1.elim
  obtain ⟨δ', h1, h2⟩ := key (acc := []) h
  unfold Ev comp
  rw [ho, h1, if_neg Bool.false_ne_true]
  dsimp only
  rw [back_wipe h2]
  exact q
theorem filterMap_some {τ : Type} {g : τ → α} : ∀ {xs : List τ}, xs.filterMap (fun x => some (g x)) = xs.map g
  | [] => rfl
  | x :: r => by rw [List.filterMap_cons, List.map_cons, filterMap_some]
/-- a comprehension without a condition, over x's -/
theorem ev_lc_map {τ : Type} {turn : D → M (Option α)} {vs : List Nat} {f : τ → D} {xs : List τ} {Q : List α → Env → Prop} (g : τ → α) (ho : vs.any (ownAt δ) = false)
    (h : ∀ x ∈ xs, Ev (turn (f x)) (wipeD δ vs) (fun o δ' => o = some (g x) ∧ wipeD δ' vs = wipeD δ vs) nox) (q : Q (xs.map g) δ) : Ev (comp turn vs (xs.map f)) δ Q X :=
  ev_comp_map (fun x => some (g x)) ho h (by rw [filterMap_some]; exact q)
/-- a comprehension with a condition, over x's -/
theorem ev_lc_filter {τ : Type} {turn : D → M (Option α)} {vs : List Nat} {f : τ → D} {xs : List τ} {Q : List α → Env → Prop} (c : τ → Bool) (g : τ → α) (ho : vs.any (ownAt δ) = false)
    (h : ∀ x ∈ xs, Ev (turn (f x)) (wipeD δ vs) (fun o δ' => o = (if c x then some (g x) else none) ∧ wipeD δ' vs = wipeD δ vs) nox) (q : Q ((xs.filter c).map g) δ) : Ev (comp turn vs (xs.map f)) δ Q X := by
  refine ev_comp_map (fun x => if c x then some (g x) else none) ho h ?_
  have : ∀ xs : List τ, xs.filterMap (fun x => if c x then some (g x) else none) = (xs.filter c).map g := by
    intro xs
    induction xs with
    | nil => rfl
    | cons x r ih =>
      rw [List.filterMap_cons, List.filter_cons]
      cases c x <;> simp [ih]
  rw [this]
  exact q
/-! calls -/
/-- what a call with these arguments gives -/
def Rn (o : Option Out) (P : Out → Prop) : Prop := ∃ x, o = some x ∧ P x
theorem ev_callR {fi : FI} {rs : List R} {Q : R → Env → Prop} : Ev (callR fi rs) δ Q X = match (motive := Option (Res R) → Prop) callPure fi rs δ with
    | some (.ok a δ') => Q a δ'
    | some (.ex c fs δ') => X c fs δ'
    | none => Ev (callMut fi rs) δ Q X := by
  unfold Ev callR
  rcases h : callPure fi rs δ with _ | _ | _ <;> rfl
/-- a call that changes nothing and hands back a flat thing -/
theorem ev_call_flat {fi : FI} {rs : List R} {Q : R → Env → Prop} {ds : List D} {w : Bool} {d : D} (hm : fi.mask = List.replicate rs.length false) (hv : vws δ rs = some ds) (hs : fi.sem ds = some (.ret w d [])) (hf : flatD d = true) (q : Q (.dat d) δ) : Ev (callR fi rs) δ Q X := by
  rw [ev_callR]
  have : callPure fi rs δ = some (.ok (.dat d) δ) := by
    unfold callPure
    rw [hm, hv]
    simp [hs, hf]
  rw [this]
  exact q
/-- a call, in general -/
theorem ev_call {fi : FI} {rs : List R} {Q : R → Env → Prop} {P : Out → Prop} (hp : callPure fi rs δ = none)
    (h : Ev (giveAt fi.mask rs) δ (fun rs δ => oK (ins δ fi.mask rs) (fun ds => (slotsAt fi.mask rs).Nodup ∧ Rn (fi.sem ds) (fun o => match o with
        | .ret w d as => oK (outs δ (slotsAt fi.mask rs) as) (fun δ' => Q (if w then .own d else .dat d) δ')
        | .ex c fs as => oK (outs δ (slotsAt fi.mask rs) as) (fun δ' => X c fs δ')))) X) : Ev (callR fi rs) δ Q X := by
  rw [ev_callR, hp]
  dsimp only
  unfold callMut
  rw [ev_bnd]
  refine Ev.mono h (fun rs δ h => ?_) fun _ _ _ h => h
  unfold Ev
  dsimp only
  rcases hi : ins δ fi.mask rs with _ | ds
  · rw [hi] at h; exact h
  · rw [hi] at h
    obtain ⟨h1, o, h2, h3⟩ := h
    dsimp only
    rw [if_pos h1, h2]
    cases o with
    | ret w d as =>
      dsimp only at h3 ⊢
      rcases ho : outs δ (slotsAt fi.mask rs) as with _ | δ'
      · rw [ho] at h3; exact h3
      · rw [ho] at h3; exact h3
    | ex c fs as =>
      dsimp only at h3 ⊢
      rcases ho : outs δ (slotsAt fi.mask rs) as with _ | δ'
      · rw [ho] at h3; exact h3
      · rw [ho] at h3; exact h3
theorem ev_newR {fi : FI} {c : Str} {ds : List D} {Q : R → Env → Prop} (hm : fi.mask = true :: List.replicate ds.length false) (h : Rn (fi.sem (.ins c [] :: ds)) (fun o => match o with
    | .ret false .non [d] => Q (.own d) δ
    | .ex c fs [_] => X c fs δ
    | _ => False)) : Ev (newR fi c ds) δ Q X := by
  obtain ⟨o, h1, h2⟩ := h
  unfold Ev newR
  rw [if_pos hm, h1]
  split at h2
  · exact h2
  · exact h2
  · exact h2.elim
theorem run_of {mask : List Bool} {n : Nat} {body : List MS} {ds : List D} {P : Out → Prop} (hl : ds.length = mask.length)
    (h : Ev (evSs cf F (keepOf mask) body) (startD mask ds ++ List.replicate (n - mask.length) none) (fun fl δ => match fl with
      | .nx => oK (restD δ 0 mask) (fun r => P (.ret false .non r))
      | .rt (.dat d) => oK (restD δ 0 mask) (fun r => P (.ret false d r))
      | .rt (.own d) => oK (restD δ 0 mask) (fun r => P (.ret true d r))
      | .rt (.bor _) => False) (fun c fs δ => oK (restD δ 0 mask) (fun r => P (.ex c fs r)))) : Rn (run cf F mask n body ds) P := by
  unfold Ev at h
  unfold run
  rw [if_neg (fun z => z hl)]
  split at h
  · rename_i fl δ e
    rw [e]
    cases fl with
    | nx =>
      dsimp only at h ⊢
      rcases q : restD δ 0 mask with _ | r
      · rw [q] at h; exact h.elim
      · rw [q] at h; exact ⟨_, rfl, h⟩
    | rt v =>
      cases v with
      | dat d =>
        dsimp only at h ⊢
        rcases q : restD δ 0 mask with _ | r
        · rw [q] at h; exact h.elim
        · rw [q] at h; exact ⟨_, rfl, h⟩
      | own d =>
        dsimp only at h ⊢
        rcases q : restD δ 0 mask with _ | r
        · rw [q] at h; exact h.elim
        · rw [q] at h; exact ⟨_, rfl, h⟩
      | bor i => exact h.elim
  · rename_i c fs δ e
    rw [e]
    dsimp only at h ⊢
    rcases q : restD δ 0 mask with _ | r
    · rw [q] at h; exact h.elim
    · rw [q] at h; exact ⟨_, rfl, h⟩
  · exact h.elim
theorem run_eq {mask : List Bool} {n : Nat} {body : List MS} {ds : List D} {o : Out} (h : Rn (run cf F mask n body ds) (fun x => x = o)) : run cf F mask n body ds = some o := by
  obtain ⟨x, h1, h2⟩ := h
  rw [h1, h2]
/-- how a frame ends, for its caller -/
def endK (mask : List Bool) (P : Out → Prop) : Fl → Env → Prop := fun fl δ => match fl with
  | .nx => oK (restD δ 0 mask) (fun r => P (.ret false .non r))
  | .rt (.dat d) => oK (restD δ 0 mask) (fun r => P (.ret false d r))
  | .rt (.own d) => oK (restD δ 0 mask) (fun r => P (.ret true d r))
  | .rt (.bor _) => False
def endX (mask : List Bool) (P : Out → Prop) : XX := fun c fs δ => oK (restD δ 0 mask) (fun r => P (.ex c fs r))
@[simp] theorem endK_nx {mask : List Bool} {P : Out → Prop} : endK mask P .nx δ = oK (restD δ 0 mask) (fun r => P (.ret false .non r)) := rfl
@[simp] theorem endK_dat {mask : List Bool} {P : Out → Prop} {d : D} : endK mask P (.rt (.dat d)) δ = oK (restD δ 0 mask) (fun r => P (.ret false d r)) := rfl
@[simp] theorem endK_own {mask : List Bool} {P : Out → Prop} {d : D} : endK mask P (.rt (.own d)) δ = oK (restD δ 0 mask) (fun r => P (.ret true d r)) := rfl
@[simp] theorem endX_eq {mask : List Bool} {P : Out → Prop} {c : Str} {fs : List (Str × D)} : endX mask P c fs δ = (oK (restD δ 0 mask) (fun r => P (.ex c fs r))) := rfl
theorem fi_rn {mask : List Bool} {n : Nat} {body : List MS} {ds : List D} {P : Out → Prop} (hl : ds.length = mask.length)
    (h : Ev (evSs cf F (keepOf mask) body) (startD mask ds ++ List.replicate (n - mask.length) none) (endK mask P) (endX mask P)) : Rn ((FI.mk mask (run cf F mask n body)).sem ds) P := by
  refine run_of hl (Ev.mono h (fun fl δ h => ?_) fun _ _ _ h => h)
  cases fl with
  | nx => exact h
  | rt v => cases v <;> exact h
theorem fi_eq {mask : List Bool} {n : Nat} {body : List MS} {ds : List D} {o : Out} (hl : ds.length = mask.length)
    (h : Ev (evSs cf F (keepOf mask) body) (startD mask ds ++ List.replicate (n - mask.length) none) (endK mask (fun x => x = o)) (endX mask (fun x => x = o))) : (FI.mk mask (run cf F mask n body)).sem ds = some o :=
  run_eq (fi_rn hl h)
end
end Rl

set_option Elab.async false
set_option linter.all false
set_option maxRecDepth 100000
set_option maxHeartbeats 4000000
/-! Pl C: operations on data, for simp. -/
namespace Rl
open PySem L2
@[simp] theorem startD_nil {ds : List D} : startD [] ds = [] := by cases ds <;> rfl
@[simp] theorem startD_t {m : List Bool} {d : D} {ds : List D} : startD (true :: m) (d :: ds) = some (.own d) :: startD m ds := rfl
@[simp] theorem startD_f {m : List Bool} {d : D} {ds : List D} : startD (false :: m) (d :: ds) = some (.dat d) :: startD m ds := rfl
@[simp] theorem restD_nil {δ : Env} {i : Nat} : restD δ i [] = some [] := by unfold restD; rfl
@[simp] theorem restD_f {δ : Env} {i : Nat} {m : List Bool} : restD δ i (false :: m) = restD δ (i + 1) m := by rw [restD]
@[simp] theorem restD_t {δ : Env} {i : Nat} {m : List Bool} : restD δ i (true :: m) = match (motive := Option (Option B) → Option (List D) → Option (List D)) δ[i]?, restD δ (i + 1) m with
    | some (some (.own d)), some r => some (d :: r)
    | _, _ => none := by rw [restD]; all_goals (rcases δ[i]? with _ | _ | _ | _ <;> rcases restD δ (i + 1) m with _ | _ <;> rfl)
@[simp] theorem keepOf_eq {m : List Bool} {i : Nat} : keepOf m i = m.getD i false := rfl
@[simp] theorem scD_non : scD .non = .non := rfl
@[simp] theorem scD_bl {b : Bool} : scD (.bl b) = .bl b := rfl
@[simp] theorem scD_int {i : Int} : scD (.int i) = .int i := rfl
@[simp] theorem scD_str {x : Str} : scD (.str x) = .str x := rfl
@[simp] theorem boolOf_bl {b : Bool} : boolOf (.bl b) = some b := rfl
@[simp] theorem keyD_int {i : Int} : keyD (.int i) = some (.inl i) := rfl
@[simp] theorem keyD_str {i : Str} : keyD (.str i) = some (.inr i) := rfl
@[simp] theorem keysD_nil : keysD [] = some [] := rfl
@[simp] theorem keysD_cons {d : D} {r : List D} : keysD (d :: r) = match (motive := Option Key → Option (List Key) → Option (List Key)) keyD d, keysD r with | some a, some b => some (a :: b) | _, _ => none := rfl
@[simp] theorem kD_int {i : Int} : kD (.inl i) = .int i := rfl
@[simp] theorem kD_str {i : Str} : kD (.inr i) = .str i := rfl
@[simp] theorem seqD_lst {l : List D} : seqD (.lst l) = some l := rfl
@[simp] theorem seqD_tup {l : List D} : seqD (.tup l) = some l := rfl
@[simp] theorem seqD_ctp {l : List D} : seqD (.ctp l) = some l := rfl
@[simp] theorem rg1_eq {i : Int} : rg1D (.int i) = if rngOk i then some (rangeD 0 i) else none := rfl
@[simp] theorem rg2_eq {i j : Int} : rg2D (.int i) (.int j) = if rngOk i && rngOk j then some (rangeD i j) else none := rfl
@[simp] theorem zip_lst {x y : List D} : zipL [.lst x, .lst y] = some ((x.zip y).map fun p => .tup [p.1, p.2]) := rfl
@[simp] theorem zip_tup {x y : List D} : zipL [.tup x, .tup y] = some ((x.zip y).map fun p => .tup [p.1, p.2]) := rfl
@[simp] theorem its_eq {l : List (List Key × D)} : itsD (.dtt l) = some (l.map fun kv => .tup [.tup (kv.1.map kD), kv.2]) := rfl
@[simp] theorem setG_one {i : Nat} {d : D} {δ : Env} : setG (.one i) d δ = if i < δ.length then some (δ.set i (some (.dat d))) else none := rfl
@[simp] theorem setG_many {l : List Nat} {ds : List D} {δ : Env} : setG (.many l) (.tup ds) δ = if ds.length = l.length ∧ ∀ i ∈ l, i < δ.length then some ((l.zip ds).foldl (fun δ p => δ.set p.1 (some (.dat p.2))) δ) else none := rfl
@[simp] theorem keepG_one {keep : Nat → Bool} {i : Nat} : keepG keep (.one i) = keep i := rfl
@[simp] theorem keepG_many {keep : Nat → Bool} {l : List Nat} : keepG keep (.many l) = l.any keep := rfl
@[simp] theorem wipe_nil {δ : Env} : wipeD δ [] = δ := rfl
@[simp] theorem wipe_cons {δ : Env} {i : Nat} {r : List Nat} : wipeD δ (i :: r) = (wipeD δ r).set i none := rfl
@[simp] theorem ownAt_eq {δ : Env} {i : Nat} : ownAt δ i = match (motive := Option (Option B) → Bool) δ[i]? with | some (some (.own _)) => true | _ => false := rfl
/-! binary -/
@[simp] theorem bin_add {i j : Int} : binD .add (.int i) (.int j) = some (.dat (.int (i + j))) := rfl
@[simp] theorem bin_sub {i j : Int} : binD .sub (.int i) (.int j) = some (.dat (.int (i - j))) := rfl
@[simp] theorem bin_mul {i j : Int} : binD .mul (.int i) (.int j) = if mulOk i j then some (.dat (.int (i * j))) else none := rfl
@[simp] theorem bin_fdiv {i j : Int} : binD .fdiv (.int i) (.int j) = if divOk j then some (.dat (.int (i.fdiv j))) else none := rfl
@[simp] theorem bin_mod {i j : Int} : binD .mod (.int i) (.int j) = if decide (j ≠ 0) then some (.dat (.int (i.fmod j))) else none := rfl
@[simp] theorem bin_pow {i j : Int} : binD .pow (.int i) (.int j) = if decide (0 ≤ j) && decide (j ≤ 1000000) && decide (i.natAbs < 2 ^ 64) then some (.dat (.int (i ^ j.toNat))) else none := rfl
@[simp] theorem bin_adds {x y : Str} : binD .add (.str x) (.str y) = if szOk (x.length + y.length) then some (.dat (.str (x ++ y))) else none := rfl
@[simp] theorem bin_addl {x y : List D} : binD .add (.lst x) (.lst y) = if szOk (x.length + y.length) then some (.own (.lst (x ++ y))) else none := rfl
@[simp] theorem bin_addt {x y : List D} : binD .add (.tup x) (.tup y) = if szOk (x.length + y.length) then some (.dat (.tup (x ++ y))) else none := rfl
@[simp] theorem szOk_eq {n : Nat} : szOk n = decide (n ≤ 16777216) := rfl
theorem szOk_of {n : Nat} (h : n ≤ 16777216) : szOk n = true := decide_eq_true h
@[simp] theorem neg_int {i : Int} : negD (.int i) = some (.dat (.int (-i))) := rfl
@[simp] theorem rev_lst {l : List D} : revD (.lst l) = some (.own (.lst l.reverse)) := rfl
/-! comparisons -/
@[simp] theorem cmp_lt {i j : Int} : cmpD .lt (.int i) (.int j) = some (decide (i < j)) := rfl
@[simp] theorem cmp_le {i j : Int} : cmpD .le (.int i) (.int j) = some (decide (i ≤ j)) := rfl
@[simp] theorem cmp_gt {i j : Int} : cmpD .gt (.int i) (.int j) = some (decide (j < i)) := rfl
@[simp] theorem cmp_ge {i j : Int} : cmpD .ge (.int i) (.int j) = some (decide (j ≤ i)) := rfl
@[simp] theorem cmp_eq {d e : D} : cmpD .eq d e = eqD d e := by cases d <;> cases e <;> rfl
@[simp] theorem cmp_ne {d e : D} : cmpD .ne d e = notO (eqD d e) := by cases d <;> cases e <;> rfl
@[simp] theorem notO_b {b : Bool} : notO (some b) = some (!b) := rfl
@[simp] theorem cmp_is {d : D} : cmpD .is d .non = some (isNon d) := by cases d <;> rfl
@[simp] theorem cmp_isn {d : D} : cmpD .isn d .non = some (!isNon d) := by cases d <;> rfl
@[simp] theorem isNon_non : isNon .non = true := rfl
@[simp] theorem isNon_int {i : Int} : isNon (.int i) = false := rfl
@[simp] theorem isNon_str {i : Str} : isNon (.str i) = false := rfl
@[simp] theorem isNon_tup {i : List D} : isNon (.tup i) = false := rfl
@[simp] theorem cmp_inl {d : D} {l : List D} : cmpD .inn d (.lst l) = inD d l := by cases d <;> rfl
@[simp] theorem cmp_int {d : D} {l : List D} : cmpD .inn d (.tup l) = inD d l := by cases d <;> rfl
@[simp] theorem cmp_inc {d : D} {l : List D} : cmpD .inn d (.ctp l) = inD d l := by cases d <;> rfl
@[simp] theorem cmp_ind {d : D} {l : List (Key × D)} : cmpD .inn d (.dct l) = (keyD d).map fun k => (getK l k).isSome := by cases d <;> rfl
@[simp] theorem cmp_ninl {d : D} {l : List D} : cmpD .nin d (.lst l) = notO (inD d l) := by cases d <;> rfl
@[simp] theorem cmp_nint {d : D} {l : List D} : cmpD .nin d (.tup l) = notO (inD d l) := by cases d <;> rfl
@[simp] theorem cmp_ninc {d : D} {l : List D} : cmpD .nin d (.ctp l) = notO (inD d l) := by cases d <;> rfl
@[simp] theorem cmp_nind {d : D} {l : List (Key × D)} : cmpD .nin d (.dct l) = (keyD d).map fun k => !(getK l k).isSome := by cases d <;> rfl
@[simp] theorem eqD_int {i j : Int} : eqD (.int i) (.int j) = some (decide (i = j)) := by
  have : (i == j) = decide (i = j) := by rw [Bool.eq_iff_iff]; simp
  rw [← this]
  rfl
theorem mapO {α β : Type} {f : α → β} {o : Option α} {b : β} (h : o.map f = some b) : ∃ a, o = some a ∧ b = f a := by
  cases o with
  | none => cases h
  | some a => exact ⟨a, rfl, (Option.some.inj h).symm⟩
/-- no booleans in it, of little depth, with strings that can stand -/
def nbD : Nat → D → Bool
  | _, .int _ => true
  | _, .non => true
  | _, .str x => PyData.strOk x
  | n + 1, .tup l => l.all (nbD n)
  | n + 1, .lst l => l.all (nbD n)
  | _, _ => false
theorem nb_py : ∀ {n : Nat} {d : D}, nbD n d = true → ∃ p, toPy d = some p ∧ p.canLay0 = true ∧ p.depth ≤ n := by
  intro n
  induction n with
  | zero =>
    intro d h
    cases d with
    | int i => exact ⟨.int i, rfl, rfl, Nat.le_refl 0⟩
    | non => exact ⟨.none, rfl, rfl, Nat.le_refl 0⟩
    | str x => exact ⟨.str x, rfl, by simpa [PyData.canLay0, nbD] using h, Nat.le_refl 0⟩
    | _ => cases h
  | succ n ih =>
    have all : ∀ l : List D, l.all (nbD n) = true → ∃ ps, toPys l = some ps ∧ PyData.canLayAll0 ps = true ∧ PyData.depthAll ps ≤ n := by
      intro l
      induction l with
      | nil => intro _; exact ⟨[], rfl, rfl, Nat.zero_le _⟩
      | cons d r ihl =>
        intro h
        rw [List.all_cons, Bool.and_eq_true] at h
        obtain ⟨p, h1, h2, h3⟩ := ih h.1
        obtain ⟨ps, q1, q2, q3⟩ := ihl h.2
        refine ⟨p :: ps, ?_, ?_, ?_⟩
        · show (match (motive := Option PyData → Option (List PyData) → Option (List PyData)) toPy d, toPys r with | some a, some b => some (a :: b) | _, _ => none) = _
          rw [h1, q1]
        · simp [PyData.canLayAll0, h2, q2]
        · simp only [PyData.depthAll]
          omega
    intro d h
    cases d with
    | int i => exact ⟨.int i, rfl, rfl, Nat.zero_le _⟩
    | non => exact ⟨.none, rfl, rfl, Nat.zero_le _⟩
    | str x => exact ⟨.str x, rfl, by simpa [PyData.canLay0, nbD] using h, Nat.zero_le _⟩
    | tup l =>
      obtain ⟨ps, q1, q2, q3⟩ := all l h
      refine ⟨.tuple ps, ?_, ?_, ?_⟩
      · show (toPys l).map PyData.tuple = _
        rw [q1]; rfl
      · simpa [PyData.canLay0] using q2
      · simp only [PyData.depth]; omega
    | lst l =>
      obtain ⟨ps, q1, q2, q3⟩ := all l h
      refine ⟨.list ps, ?_, ?_, ?_⟩
      · show (toPys l).map PyData.list = _
        rw [q1]; rfl
      · simpa [PyData.canLay0] using q2
      · simp only [PyData.depth]; omega
    | _ => cases h
open Classical in
theorem nb_eqv : ∀ {n m : Nat} {d e : D} {p q : PyData}, nbD n d = true → nbD m e = true → toPy d = some p → toPy e = some q → PyData.eqv p q = decide (d = e) := by
  intro n
  have base : ∀ {m : Nat} {d e : D} {p q : PyData}, nbD 0 d = true → nbD m e = true → toPy d = some p → toPy e = some q → PyData.eqv p q = decide (d = e) := by
    intro m d e p q h1 h2 h3 h4
    rw [Bool.eq_iff_iff, decide_eq_true_iff]
    cases d with
    | int i =>
      cases (Option.some.inj h3)
      cases e with
      | int j =>
        cases (Option.some.inj h4)
        show (i == j) = true ↔ _
        simp
      | non => cases (Option.some.inj h4); show (false = true) ↔ _; simp
      | str x => cases (Option.some.inj h4); show (false = true) ↔ _; simp
      | tup l => obtain ⟨ps, hp, rfl⟩ := mapO (show (toPys l).map PyData.tuple = some q from h4); show (false = true) ↔ _; simp
      | lst l => obtain ⟨ps, hp, rfl⟩ := mapO (show (toPys l).map PyData.list = some q from h4); show (false = true) ↔ _; simp
      | _ => cases m <;> cases h2
    | non =>
      cases (Option.some.inj h3)
      cases e with
      | int j => cases (Option.some.inj h4); show (false = true) ↔ _; simp
      | non => cases (Option.some.inj h4); show (true = true) ↔ _; simp
      | str x => cases (Option.some.inj h4); show (false = true) ↔ _; simp
      | tup l => obtain ⟨ps, hp, rfl⟩ := mapO (show (toPys l).map PyData.tuple = some q from h4); show (false = true) ↔ _; simp
      | lst l => obtain ⟨ps, hp, rfl⟩ := mapO (show (toPys l).map PyData.list = some q from h4); show (false = true) ↔ _; simp
      | _ => cases m <;> cases h2
    | str x =>
      cases (Option.some.inj h3)
      cases e with
      | int j => cases (Option.some.inj h4); show (false = true) ↔ _; simp
      | non => cases (Option.some.inj h4); show (false = true) ↔ _; simp
      | str y => cases (Option.some.inj h4); show (x == y) = true ↔ _; simp
      | tup l => obtain ⟨ps, hp, rfl⟩ := mapO (show (toPys l).map PyData.tuple = some q from h4); show (false = true) ↔ _; simp
      | lst l => obtain ⟨ps, hp, rfl⟩ := mapO (show (toPys l).map PyData.list = some q from h4); show (false = true) ↔ _; simp
      | _ => cases m <;> cases h2
    | _ => cases h1
  induction n with
  | zero => exact base
  | succ n ih =>
    have all : ∀ (m : Nat) (l r : List D) (ps qs : List PyData), l.all (nbD n) = true → r.all (nbD m) = true → toPys l = some ps → toPys r = some qs → (PyData.eqvAll ps qs = true ↔ l = r) := by
      intro m l
      induction l with
      | nil =>
        intro r ps qs h1 h2 h3 h4
        cases (Option.some.inj h3)
        cases r with
        | nil => cases (Option.some.inj h4); exact ⟨fun _ => rfl, fun _ => rfl⟩
        | cons e r =>
          have h4 : (match (motive := Option PyData → Option (List PyData) → Option (List PyData)) toPy e, toPys r with | some a, some b => some (a :: b) | _, _ => none) = some qs := h4
          rcases hq : toPy e with _ | a
          · rw [hq] at h4; cases h4
          · rcases hqs : toPys r with _ | b
            · rw [hq, hqs] at h4; cases h4
            · rw [hq, hqs] at h4
              cases (Option.some.inj h4)
              show (false = true) ↔ _
              simp
      | cons d l ihl =>
        intro r ps qs h1 h2 h3 h4
        have h3 : (match (motive := Option PyData → Option (List PyData) → Option (List PyData)) toPy d, toPys l with | some a, some b => some (a :: b) | _, _ => none) = some ps := h3
        rcases hq : toPy d with _ | a
        · rw [hq] at h3; cases h3
        · rcases hqs : toPys l with _ | b
          · rw [hq, hqs] at h3; cases h3
          · rw [hq, hqs] at h3
            cases (Option.some.inj h3)
            cases r with
            | nil => cases (Option.some.inj h4); show (false = true) ↔ _; simp
            | cons e r =>
              have h4 : (match (motive := Option PyData → Option (List PyData) → Option (List PyData)) toPy e, toPys r with | some a, some b => some (a :: b) | _, _ => none) = some qs := h4
              rcases hq2 : toPy e with _ | a2
              · rw [hq2] at h4; cases h4
              · rcases hqs2 : toPys r with _ | b2
                · rw [hq2, hqs2] at h4; cases h4
                · rw [hq2, hqs2] at h4
                  cases (Option.some.inj h4)
                  rw [List.all_cons, Bool.and_eq_true] at h1 h2
                  show (PyData.eqv a a2 && PyData.eqvAll b b2) = true ↔ _
                  rw [Bool.and_eq_true, ih h1.1 h2.1 hq hq2, ihl r b b2 h1.2 h2.2 hqs hqs2, decide_eq_true_iff, List.cons.injEq]
    intro m d e p q h1 h2 h3 h4
    cases d with
    | int i => exact base (m := m) (show nbD 0 (.int i) = true from rfl) h2 h3 h4
    | non => exact base (m := m) (show nbD 0 .non = true from rfl) h2 h3 h4
    | str x => exact base (m := m) (show nbD 0 (.str x) = true from h1) h2 h3 h4
    | tup l =>
      obtain ⟨ps, hp, rfl⟩ := mapO (show (toPys l).map PyData.tuple = some p from h3)
      rw [Bool.eq_iff_iff, decide_eq_true_iff]
      cases e with
      | int j => cases (Option.some.inj h4); show (false = true) ↔ _; simp
      | non => cases (Option.some.inj h4); show (false = true) ↔ _; simp
      | str y => cases (Option.some.inj h4); show (false = true) ↔ _; simp
      | tup r =>
        obtain ⟨qs, hq, rfl⟩ := mapO (show (toPys r).map PyData.tuple = some q from h4)
        cases m with
        | zero => cases h2
        | succ m =>
          show (PyData.eqvAll ps qs) = true ↔ _
          rw [all m l r ps qs h1 h2 hp hq, D.tup.injEq]
      | lst r => obtain ⟨ps, hp, rfl⟩ := mapO (show (toPys r).map PyData.list = some q from h4); show (false = true) ↔ _; simp
      | _ => cases m <;> cases h2
    | lst l =>
      obtain ⟨ps, hp, rfl⟩ := mapO (show (toPys l).map PyData.list = some p from h3)
      rw [Bool.eq_iff_iff, decide_eq_true_iff]
      cases e with
      | int j => cases (Option.some.inj h4); show (false = true) ↔ _; simp
      | non => cases (Option.some.inj h4); show (false = true) ↔ _; simp
      | str y => cases (Option.some.inj h4); show (false = true) ↔ _; simp
      | lst r =>
        obtain ⟨qs, hq, rfl⟩ := mapO (show (toPys r).map PyData.list = some q from h4)
        cases m with
        | zero => cases h2
        | succ m =>
          show (PyData.eqvAll ps qs) = true ↔ _
          rw [all m l r ps qs h1 h2 hp hq, D.lst.injEq]
      | tup r => obtain ⟨ps, hp, rfl⟩ := mapO (show (toPys r).map PyData.tuple = some q from h4); show (false = true) ↔ _; simp
      | _ => cases m <;> cases h2
    | _ => cases h1
open Classical in
theorem eqD_nb {n m : Nat} {d e : D} (h1 : nbD n d = true) (h2 : nbD m e = true) (hn : n ≤ 64) (hm : m ≤ 64) : eqD d e = some (decide (d = e)) := by
  obtain ⟨p, p1, p2, p3⟩ := nb_py h1
  obtain ⟨q, q1, q2, q3⟩ := nb_py h2
  have s1 : SeqAt.shaped p = true := by
    unfold SeqAt.shaped
    rw [p2, Bool.true_and]
    exact decide_eq_true (by omega)
  have s2 : SeqAt.shaped q = true := by
    unfold SeqAt.shaped
    rw [q2, Bool.true_and]
    exact decide_eq_true (by omega)
  unfold eqD
  rw [p1, q1]
  dsimp only
  rw [s1, s2, if_pos (by rfl), nb_eqv h1 h2 p1 q1]
theorem eqD_iff {n m : Nat} {d e : D} {b : Bool} (h1 : nbD n d = true) (h2 : nbD m e = true) (hb : b = true ↔ d = e) (hn : n ≤ 64 := by omega) (hm : m ≤ 64 := by omega) : eqD d e = some b := by
  rw [eqD_nb h1 h2 hn hm]
  congr 1
  classical
  rw [Bool.eq_iff_iff, hb]
  exact decide_eq_true_iff
end Rl

set_option Elab.async false
set_option linter.all false
set_option maxRecDepth 100000
set_option maxHeartbeats 4000000
/-! Pl D: fractions. -/
namespace Rl
open PySem L2
def Kn (cf : Cfg) (x : String) (S : FI → Prop) : Prop := ∃ fi, cf.fns x = some fi ∧ S fi
/-- it is an integer -/
def isWh : D → Bool
  | .int _ => true
  | _ => false
@[simp] theorem isWh_int {i : Int} : isWh (.int i) = true := rfl
def S_is_whole (fi : FI) : Prop := fi.mask = [false] ∧ ∀ d, (tyD d).isSome = true → fi.sem [d] = some (.ret false (.bl (isWh d)) [])
theorem is_whole_ok {cf : Cfg} {F : Nat} : S_is_whole ⟨[false], run cf F [false] 1 m_is_whole⟩ := by
  refine ⟨rfl, fun d hd => ?_⟩
  apply fi_eq rfl
  cases d with
  | ins => cases hd
  | fn => cases hd
  | scr => cases hd
  | ctp => cases hd
  | _ => simp [m_is_whole, isiD, tyD, tyN, isWh]
def inB (a b : Int) : D → Bool
  | .int i => decide (a ≤ i) && decide (i ≤ b)
  | _ => false
@[simp] theorem inB_int {a b i : Int} : inB a b (.int i) = (decide (a ≤ i) && decide (i ≤ b)) := rfl
def S_is_within (fi : FI) : Prop := fi.mask = [false, false, false] ∧ ∀ d (a b : Int), (tyD d).isSome = true → fi.sem [d, .int a, .int b] = some (.ret false (.bl (inB a b d)) [])
theorem is_within_ok {cf : Cfg} {F : Nat} (h : Kn cf "is_whole" S_is_whole) : S_is_within ⟨[false, false, false], run cf F [false, false, false] 3 m_is_within⟩ := by
  obtain ⟨fi, hf, hm, hs⟩ := h
  refine ⟨rfl, fun d a b hd => ?_⟩
  apply fi_eq rfl
  simp [m_is_within, hf]
  refine ev_call_flat (by simp [hm]) (by simp) (hs _ hd) rfl ?_
  cases d with
  | int i =>
    simp
    split <;> simp_all <;> omega
  | _ => simp [isWh, inB]
/-! ### the greatest common divisor -/
theorem log2_mono {a b : Nat} (h : a ≤ b) : a.log2 ≤ b.log2 := by
  by_cases h0 : a = 0
  · subst h0; simp
  · have hb : b ≠ 0 := by omega
    exact (Nat.le_log2 hb).mpr (Nat.le_trans (Nat.log2_self_le h0) h)
theorem natAbs_abs (a : Int) : (if a < 0 then -a else a) = (a.natAbs : Int) := by
  split <;> omega
/-- Euclid's steps -/
theorem eucl_bound (a b : Nat) (h : 0 < b) (hab : b ≤ a) : 2 * (a % b) < a := by
  have h1 := Nat.mod_lt a h
  have h2 := Nat.div_add_mod a b
  have h3 : 1 ≤ a / b := (Nat.one_le_div_iff h).mpr hab
  have h4 : b ≤ b * (a / b) := Nat.le_mul_of_pos_right b h3
  omega
theorem log2_half {a b : Nat} (h : 2 * b < a) (hb : b ≠ 0) : b.log2 + 1 ≤ a.log2 := by
  have ha : a ≠ 0 := by omega
  rw [Nat.le_log2 ha, Nat.pow_succ]
  have := Nat.log2_self_le hb
  omega
theorem fdivI (a b : Nat) : (a : Int).fdiv (b : Int) = ((a / b : Nat) : Int) := by
  rw [Int.fdiv_eq_ediv_of_nonneg _ (Int.natCast_nonneg b)]
  exact (Int.natCast_ediv a b).symm
theorem sub_div_mul (a b : Nat) : (a : Int) - ((a / b : Nat) : Int) * (b : Int) = ((a % b : Nat) : Int) := by
  have h := Nat.div_add_mod a b
  have h2 : (a / b) * b + a % b = a := by rw [Nat.mul_comm]; exact h
  omega
theorem log2_div_le (a b : Nat) : (a / b).log2 ≤ a.log2 := log2_mono (Nat.div_le_self a b)
/-- a measure that falls: steps left for (a, b) -/
def eucM (a b : Nat) : Nat := if b = 0 then 0 else if a < b then a.log2 + b.log2 + 2 else a.log2 + b.log2 + 1
theorem eucM_step {a b : Nat} (h : b ≠ 0) : eucM b (a % b) < eucM a b := by
  have hb : 0 < b := by omega
  have h1 := Nat.mod_lt a hb
  unfold eucM
  rw [if_neg h]
  by_cases h0 : a % b = 0
  · rw [if_pos h0]; split <;> omega
  · rw [if_neg h0, if_neg (by omega)]
    by_cases hlt : a < b
    · rw [if_pos hlt, Nat.mod_eq_of_lt hlt]
      omega
    · rw [if_neg hlt]
      have := log2_half (eucl_bound a b hb (by omega)) h0
      omega
theorem mulOk_of {i j : Int} (h : i.natAbs.log2 + j.natAbs.log2 < 1000000) : mulOk i j = true := decide_eq_true h
theorem divOk_of {j : Int} (h0 : j ≠ 0) (h : j.natAbs.log2 < 9000) : divOk j = true := by
  unfold divOk
  rw [decide_eq_true h0, decide_eq_true h]
  rfl
def S_common (fi : FI) : Prop := fi.mask = [false, false] ∧ ∀ (a b : Int), a.natAbs.log2 < 20000 → b.natAbs.log2 < 9000 → fi.sem [.int a, .int b] = some (.ret false (.int (Nat.gcd a.natAbs b.natAbs : Nat)) [])
theorem common_ok {cf : Cfg} {F : Nat} (hF : 50000 ≤ F) : S_common ⟨[false, false], run cf F [false, false] 2 m_common⟩ := by
  refine ⟨rfl, fun a b ha hb => ?_⟩
  apply fi_eq rfl
  simp -implicitDefEqProofs -dsimp [m_common, bltD, natAbs_abs]
  refine ev_whlM (fun m δ => ∃ x y : Nat, m = eucM x y ∧ δ = [some (.dat (.int x)), some (.dat (.int y))] ∧ Nat.gcd x y = Nat.gcd a.natAbs b.natAbs ∧ x.log2 < 20000 ∧ y.log2 < 9000) (eucM a.natAbs b.natAbs) ?_ ⟨_, _, rfl, rfl, rfl, ha, hb⟩ ?_
  · unfold eucM; split
    · omega
    · split <;> omega
  · rintro m δ ⟨x, y, rfl, rfl, hg, hx, hy⟩
    by_cases h0 : y = 0
    · subst h0
      simp -implicitDefEqProofs -dsimp
      simp [← hg]
    · have hp : 0 < y := by omega
      have e1 : divOk (y : Int) = true := divOk_of (by omega) (by simpa using hy)
      have e2 : mulOk ((x : Int).fdiv (y : Int)) (y : Int) = true := by
        rw [fdivI]
        refine mulOk_of ?_
        have := log2_div_le x y
        simp only [Int.natAbs_natCast]
        omega
      simp -implicitDefEqProofs -dsimp [hp, e1, e2]
      have hm := Nat.mod_lt x hp
      refine ⟨_, eucM_step h0, y, x % y, rfl, ⟨rfl, ?_⟩, ?_, ?_, ?_⟩
      · rw [fdivI, sub_div_mul]
      · rw [← hg, Nat.gcd_comm y, ← Nat.gcd_rec, Nat.gcd_comm]
      · omega
      · have := log2_mono (show x % y ≤ y by omega)
        omega
/-- a fraction -/
def ratD (q : Rat) : D := .tup [.int q.num, .int q.den]
theorem fdiv_gcd {a : Int} {g : Nat} (h : (g : Int) ∣ a) : a.fdiv (g : Int) = a / (g : Int) := by
  exact Int.fdiv_eq_ediv_of_nonneg _ (Int.natCast_nonneg g)
theorem log2_gcd (a b : Nat) (h : b ≠ 0) : (Nat.gcd a b).log2 ≤ b.log2 := log2_mono (Nat.gcd_le_right a (by omega))
def S_fraction (fi : FI) : Prop := fi.mask = [false, false] ∧ ∀ (a b : Int), b ≠ 0 → a.natAbs.log2 < 20000 → b.natAbs.log2 < 9000 → fi.sem [.int a, .int b] = some (.ret false (ratD (Rat.divInt a b)) [])
theorem fraction_ok {cf : Cfg} {F : Nat} (h : Kn cf "common" S_common) : S_fraction ⟨[false, false], run cf F [false, false] 3 m_fraction⟩ := by
  obtain ⟨fi, hf, hm, hs⟩ := h
  refine ⟨rfl, fun a b hb0 ha hb => ?_⟩
  apply fi_eq rfl
  have hg : divOk ((Nat.gcd a.natAbs b.natAbs : Nat) : Int) = true := divOk_of (by
    have : Nat.gcd a.natAbs b.natAbs ≠ 0 := by
      intro h
      have := (Nat.gcd_eq_zero_iff.mp h).2
      omega
    omega) (by
    have := log2_gcd a.natAbs b.natAbs (by omega)
    simp only [Int.natAbs_natCast]
    omega)
  have fin : ∀ a' b' : Int, 0 < b' → a'.natAbs = a.natAbs → b'.natAbs = b.natAbs → Rat.divInt a' b' = Rat.divInt a b → D.tup [.int (a'.fdiv (Nat.gcd a.natAbs b.natAbs : Nat)), .int (b'.fdiv (Nat.gcd a.natAbs b.natAbs : Nat))] = ratD (Rat.divInt a b) := by
    intro a' b' h1 h2 h3 h4
    rw [← h4]
    unfold ratD
    rw [Rat.num_divInt, Rat.den_divInt, if_neg (by omega), Int.sign_eq_one_of_pos h1, Int.one_mul]
    have e : ((Int.gcd b' a' : Nat) : Int) = ((Nat.gcd a.natAbs b.natAbs : Nat) : Int) := by
      unfold Int.gcd
      rw [h2, h3, Nat.gcd_comm]
    rw [e]
    have e2 : Int.gcd b' a' = Nat.gcd a.natAbs b.natAbs := by
      unfold Int.gcd
      rw [h2, h3, Nat.gcd_comm]
    rw [e2, Int.fdiv_eq_ediv_of_nonneg _ (Int.natCast_nonneg _), Int.fdiv_eq_ediv_of_nonneg _ (Int.natCast_nonneg _), Int.natCast_ediv]
    have : ((b'.natAbs : Nat) : Int) = b' := by omega
    rw [this]
  simp -implicitDefEqProofs -dsimp [m_fraction, hf]
  split
  · rename_i hneg
    refine ev_call_flat (ds := [.int (-a), .int (-b)]) (by simp [hm]) (by simp) (hs _ _ (by simpa using ha) (by simpa using hb)) rfl ?_
    simp -implicitDefEqProofs -dsimp [hg]
    exact fin (-a) (-b) (by omega) (by simp) (by simp) (Rat.neg_divInt_neg a b)
  · rename_i hneg
    refine ev_call_flat (by simp [hm]) (by simp) (hs _ _ ha hb) rfl ?_
    simp -implicitDefEqProofs -dsimp [hg]
    exact fin a b (by omega) rfl rfl rfl
end Rl

set_option Elab.async false
set_option linter.all false
set_option maxRecDepth 100000
set_option maxHeartbeats 4000000
/-! Pl E: races as data. -/
namespace Rl
open PySem L2
structure Nt where
  p : Int
  g : Bool
  n : Int
  deriving DecidableEq
def wd (g : Bool) : Str := if g then "go" else "wait"
def Nt.d (x : Nt) : D := .tup [.int x.p, .str (wd x.g), .int x.n]
def ntsD (l : List Nt) : D := .tup (l.map Nt.d)
inductive Rul where | bounce | done | stay
  deriving DecidableEq
def Rul.s : Rul → Str
  | .bounce => "bounce" | .done => "done" | .stay => "stay"
structure Rc where
  die : List Int
  rule : Rul
  near : List Nt
  far : List Nt
  deriving DecidableEq
def dieD (l : List Int) : D := .tup (l.map .int)
/-- the law's dict -/
def lawD (r : Rc) : D := .dct [(.inr "die", dieD r.die), (.inr "rule", .str r.rule.s), (.inr "near", ntsD r.near), (.inr "far", ntsD r.far)]
def goK (l : List Nt) : List (Key × D) := (l.filter (·.g)).map fun x => (.inl x.p, .int x.n)
def paK (l : List Nt) : List (Key × D) := (l.filter (fun x => !x.g)).map fun x => (.inl x.p, .int x.n)
def chD (die : List Int) : D := .lst (die.map fun s => ratD (Rat.divInt s die.sum))
def raceF (r : Rc) : List (Str × D) := [("shares", dieD r.die), ("word", .str r.rule.s), ("starts", ntsD r.near), ("tails", ntsD r.far), ("chances", chD r.die),
  ("goes", .lst [.dct (goK r.near), .dct (goK r.far)]), ("pauses", .lst [.dct (paK r.near), .dct (paK r.far)])]
def raceD (r : Rc) : D := .ins "Race" (raceF r)
/-! ### reading them -/
@[simp] theorem idx_tup {l : List D} {i : Int} : idxD (.tup l) (.int i) = atI l i := rfl
@[simp] theorem idx_lst {l : List D} {i : Int} : idxD (.lst l) (.int i) = atI l i := rfl
@[simp] theorem idx_nt0 {x : Nt} : idxD x.d (.int 0) = some (.int x.p) := rfl
@[simp] theorem idx_nt1 {x : Nt} : idxD x.d (.int 1) = some (.str (wd x.g)) := rfl
@[simp] theorem idx_nt2 {x : Nt} : idxD x.d (.int 2) = some (.int x.n) := rfl
@[simp] theorem tyD_nt {x : Nt} : tyD x.d = some "tuple" := rfl
theorem strOk_of (x : String) : PyData.strOk (Str.ofString x) = true := by
  rw [Str.ofString_eq_toList]
  unfold PyData.strOk
  simp only [List.all_toArray, List.all_map, List.all_eq_true]
  intro c _
  have h := c.valid
  have h2 : c.toNat < 0x110000 := by
    rcases h with h | h
    · have : c.toNat < 0xd800 := h
      omega
    · have : c.toNat < 0x110000 := h.2
      exact this
  simpa using h2
@[simp] theorem eqD_str {x y : String} : eqD (.str (Str.ofString x)) (.str (Str.ofString y)) = some (decide (x = y)) := by
  refine eqD_iff (n := 0) (m := 0) (strOk_of x) (strOk_of y) ?_
  rw [decide_eq_true_iff, D.str.injEq, strEq]
@[simp] theorem eq_wd_go {g : Bool} : eqD (.str (wd g)) (.str (Str.ofString "go")) = some g := by
  cases g
  · show eqD (.str (Str.ofString "wait")) _ = _
    simp
  · show eqD (.str (Str.ofString "go")) _ = _
    simp
@[simp] theorem eq_wd_wait {g : Bool} : eqD (.str (wd g)) (.str (Str.ofString "wait")) = some (!g) := by
  cases g
  · show eqD (.str (Str.ofString "wait")) _ = _
    simp
  · show eqD (.str (Str.ofString "go")) _ = _
    simp
/-! ### notes -/
/-- notes that can stand -/
structure VN (l : List Nt) : Prop where
  asc : l.Pairwise (fun a b => a.p < b.p)
  pl : ∀ x ∈ l, 1 ≤ x.p ∧ x.p ≤ 6
  go : ∀ x ∈ l, x.g = true → 0 ≤ x.n ∧ x.n ≤ 6 ∧ ∀ y ∈ l, y.p ≠ x.n
  wt : ∀ x ∈ l, x.g = false → 1 ≤ x.n ∧ x.n ≤ 3
theorem VN.len {l : List Nt} (v : VN l) : l.length ≤ 6 := by
  have key : ∀ (l : List Int) (a : Int), a ≤ 7 → l.Pairwise (· < ·) → (∀ x ∈ l, a ≤ x ∧ x ≤ 6) → (l.length : Int) ≤ 7 - a := by
    intro l
    induction l with
    | nil => intro a h0 _ _; simp; omega
    | cons x r ih =>
      intro a h0 h1 h2
      have hx := h2 x List.mem_cons_self
      have := ih (x + 1) (by omega) (List.pairwise_cons.mp h1).2 (fun y hy => ⟨(List.pairwise_cons.mp h1).1 y hy, (h2 y (List.mem_cons_of_mem _ hy)).2⟩)
      simp only [List.length_cons]
      omega
  have := key (l.map (·.p)) 1 (by omega) (List.pairwise_map.mpr v.asc) (fun x hx => by
    obtain ⟨y, hy, rfl⟩ := List.mem_map.mp hx
    exact v.pl y hy)
  simp only [List.length_map] at this
  omega
/-- what is known of the module's constants -/
structure CfC (cf : Cfg) : Prop where
  mf : cf.glb "MOST_FACES" = some (.int 6)
  ms : cf.glb "MOST_SHARE" = some (.int 99)
  mp : cf.glb "MOST_PLACE" = some (.int 6)
  mw : cf.glb "MOST_WAIT" = some (.int 3)
  ru : cf.glb "RULES" = some (.ctp [.str "bounce", .str "done", .str "stay"])
  go : cf.glb "GO" = some (.str "go")
  wa : cf.glb "WAIT" = some (.str "wait")
def S_is_note (fi : FI) : Prop := fi.mask = [false] ∧ ∀ x : Nt, 1 ≤ x.p → x.p ≤ 6 → (x.g = true → 0 ≤ x.n ∧ x.n ≤ 6) → (x.g = false → 1 ≤ x.n ∧ x.n ≤ 3) → fi.sem [x.d] = some (.ret false (.bl true) [])
@[simp] theorem len_nt {x : Nt} : bltD .len [x.d] = some (.dat (.int 3)) := rfl
theorem is_note_ok {cf : Cfg} {F : Nat} (c : CfC cf) (h : Kn cf "is_within" S_is_within) : S_is_note ⟨[false], run cf F [false] 1 m_is_note⟩ := by
  obtain ⟨fi, hf, hm, hs⟩ := h
  refine ⟨rfl, fun x h1 h2 h3 h4 => ?_⟩
  apply fi_eq rfl
  simp -implicitDefEqProofs -dsimp [m_is_note, hf, c.mf, c.mp, c.mw, c.go, c.wa, isiD, tyN]
  refine ev_call_flat (ds := [.int x.p, .int 1, .int 6]) (by simp [hm]) (by simp) (hs _ _ _ rfl) rfl ?_
  simp -implicitDefEqProofs -dsimp [hf, c.mf, c.mp, c.mw, c.go, c.wa, isiD, tyN, tyD]
  refine ⟨by omega, ?_⟩
  cases hg : x.g
  · have := h4 hg
    simp -implicitDefEqProofs -dsimp [hf, c.mw]
    refine ev_call_flat (ds := [.int x.n, .int 1, .int 3]) (by simp [hm]) (by simp) (hs _ _ _ rfl) rfl ?_
    simp -implicitDefEqProofs -dsimp [this]
  · have := h3 hg
    simp -implicitDefEqProofs -dsimp [hf, c.mp, c.go]
    refine ev_call_flat (ds := [.int x.n, .int 0, .int 6]) (by simp [hm]) (by simp) (hs _ _ _ rfl) rfl ?_
    simp -implicitDefEqProofs -dsimp [this]
def intL (l : List Int) : List D := l.map .int
theorem intL_zip (a b : List Int) : (intL a).zip (intL b) = (a.zip b).map (fun p => (.int p.1, .int p.2)) := by
  unfold intL
  rw [List.zip_map]
  rfl
theorem blsD_map {τ : Type} (g : τ → Bool) : ∀ l : List τ, blsD (l.map fun x => .bl (g x)) = some (l.map g)
  | [] => rfl
  | x :: r => by
    rw [List.map_cons, List.map_cons]
    show (blsD (r.map _)).map _ = _
    rw [blsD_map g r]
    rfl
theorem all_lst {τ : Type} (g : τ → Bool) (l : List τ) : bltD .all [.lst (l.map fun x => .bl (g x))] = some (.dat (.bl (l.all g))) := by
  show (blsD _).map _ = _
  rw [blsD_map]
  simp [List.all_map, Function.comp_def]
theorem any_lst {τ : Type} (g : τ → Bool) (l : List τ) : bltD .any [.lst (l.map fun x => .bl (g x))] = some (.dat (.bl (l.any g))) := by
  show (blsD _).map _ = _
  rw [blsD_map]
  simp [List.any_map, Function.comp_def]
theorem asc_zip : ∀ {l : List Int}, l.Pairwise (· < ·) → ∀ p ∈ l.zip (l.drop 1), p.1 < p.2
  | [], _ => by simp
  | [a], _ => by simp
  | a :: b :: r, h => by
    intro p hp
    rw [List.drop_one, List.tail_cons, List.zip_cons_cons, List.mem_cons] at hp
    rcases hp with rfl | hp
    · exact (List.pairwise_cons.mp h).1 b List.mem_cons_self
    · exact asc_zip (List.pairwise_cons.mp h).2 p (by rw [List.drop_one, List.tail_cons]; exact hp)
theorem inD_intL {i : Int} {l : List Int} : inD (.int i) (intL l) = some (decide (i ∈ l)) := by
  unfold inD
  rw [if_pos]
  · congr 1
    rw [Bool.eq_iff_iff]
    unfold intL
    rw [List.any_map, List.any_eq_true, decide_eq_true_iff]
    constructor
    · rintro ⟨j, hj, h⟩
      have : eqV (.int j) (.int i) = true := h
      simp [eqV] at this
      subst this
      exact hj
    · intro h
      refine ⟨i, h, ?_⟩
      show eqV (.int i) (.int i) = true
      simp [eqV]
  · unfold intL
    simp [flatD]
theorem cut_1 {α : Type} {l : List α} : cutD l (some 1) none = l.drop 1 := by
  unfold cutD
  have h1 : HT.sIx l.length 0 (some 1) = min 1 l.length := HT.sIx_nat l.length 0 1
  rw [h1, HT.sIx_none]
  by_cases h : 1 ≤ l.length
  · rw [Nat.min_eq_left h]
    exact List.take_of_length_le (by rw [List.length_drop]; omega)
  · have : l = [] := by
      cases l with
      | nil => rfl
      | cons => simp at h
    subst this
    rfl
def S_are_notes (fi : FI) : Prop := fi.mask = [false] ∧ ∀ l : List Nt, VN l → fi.sem [ntsD l] = some (.ret false (.bl true) [])
theorem are_notes_ok {cf : Cfg} {F : Nat} (c : CfC cf) (h : Kn cf "is_note" S_is_note) : S_are_notes ⟨[false], run cf F [false] 5 m_are_notes⟩ := by
  obtain ⟨fi, hf, hm, hs⟩ := h
  refine ⟨rfl, fun l v => ?_⟩
  have hlen := v.len
  have hp : (l.map (·.p)).Pairwise (· < ·) := List.pairwise_map.mpr v.asc
  apply fi_eq rfl
  simp -implicitDefEqProofs -dsimp [m_are_notes, ntsD, isiD, tyN, tyD]
  refine ev_lc_map (fun _ => .bl true) (by simp) (fun x hx => ?_) ?_
  · simp -implicitDefEqProofs -dsimp [ev_lcTurn, hf]
    refine ev_call_flat (ds := [x.d]) (by simp [hm]) (by simp) (hs x (v.pl x hx).1 (v.pl x hx).2 (fun h => ⟨(v.go x hx h).1, (v.go x hx h).2.1⟩) (v.wt x hx)) rfl ?_
    simp -implicitDefEqProofs -dsimp
  · simp -implicitDefEqProofs -dsimp [all_lst (fun _ => true)]
    refine ⟨by omega, ?_⟩
    refine ev_lc_map (fun x => .int x.p) (by simp) (fun x hx => ?_) ?_
    · simp -implicitDefEqProofs -dsimp [ev_lcTurn]
    · simp -implicitDefEqProofs -dsimp [slcD, oneInt]
      refine ⟨by omega, ?_⟩
      have e : (List.map (fun x : Nt => D.int x.p) l).zip (cutD (List.map (fun x : Nt => D.int x.p) l) (some 1) none) = ((l.map (·.p)).zip ((l.map (·.p)).drop 1)).map (fun p => (.int p.1, .int p.2)) := by
        rw [cut_1, ← intL_zip]
        unfold intL
        simp [List.map_map, Function.comp_def]
      rw [e, List.map_map]
      refine ev_lc_map (fun _ => .bl true) (by simp) (fun x hx => ?_) ?_
      · have := asc_zip hp x hx
        simp -implicitDefEqProofs -dsimp [ev_lcTurn, this]
      · simp -implicitDefEqProofs -dsimp [all_lst (fun _ => true)]
        refine ⟨by omega, ?_⟩
        refine ev_lc_map (fun _ => .bl false) (by simp) (fun x hx => ?_) ?_
        · have hin : inD (.int x.n) (List.map (fun x : Nt => D.int x.p) l) = some (decide (x.n ∈ l.map (·.p))) := by
            rw [← inD_intL]
            unfold intL
            rw [List.map_map]
            rfl
          cases hg : x.g
          · simp -implicitDefEqProofs -dsimp [ev_lcTurn, c.go, hg]
          · have hno : ¬ x.n ∈ l.map (·.p) := by
              intro h
              obtain ⟨y, hy, h2⟩ := List.mem_map.mp h
              exact (v.go x hx hg).2.2 y hy h2
            simp -implicitDefEqProofs -dsimp [ev_lcTurn, c.go, hg, hin, hno]
        · simp -implicitDefEqProofs -dsimp [any_lst (fun _ => false)]
          omega
end Rl

set_option Elab.async false
set_option linter.all false
set_option maxRecDepth 100000
set_option maxHeartbeats 4000000
/-! Pl F: the ends of a track. -/
namespace Rl
open PySem L2
/-- what is known of the class Race -/
structure CfR (cf : Cfg) : Prop where
  flds : cf.flds "Race" = some (["shares", "word", "starts", "tails", "chances", "goes", "pauses"] : List Str)
  p1 : cf.prp "Race" "shares" = none
  p2 : cf.prp "Race" "word" = none
  p3 : cf.prp "Race" "starts" = none
  p4 : cf.prp "Race" "tails" = none
  p5 : cf.prp "Race" "chances" = none
  p6 : cf.prp "Race" "goes" = none
  p7 : cf.prp "Race" "pauses" = none
section
variable {cf : Cfg} {F : Nat} {δ : Env} {Q : R → Env → Prop} {X : XX} {x : R} {r : Rc}
theorem lookup_cons_str {α : Type} {a b : String} {v : α} {l : List (Str × α)} : List.lookup (Str.ofString a) ((Str.ofString b, v) :: l) = if a = b then some v else List.lookup (Str.ofString a) l := by
  rw [List.lookup_cons, strBeq]
  by_cases h : a = b
  · subst h; simp
  · rw [show (a == b) = false by simpa using h, if_neg h]
theorem att_shares (c : CfR cf) : attK cf "shares" x δ Q X (some (raceD r)) = Q (.dat (dieD r.die)) δ := by simp [attK, raceD, raceF, c.flds, c.p1, lookup_cons_str]
theorem att_word (c : CfR cf) : attK cf "word" x δ Q X (some (raceD r)) = Q (.dat (.str r.rule.s)) δ := by simp [attK, raceD, raceF, c.flds, c.p2, lookup_cons_str]
theorem att_starts (c : CfR cf) : attK cf "starts" x δ Q X (some (raceD r)) = Q (.dat (ntsD r.near)) δ := by simp [attK, raceD, raceF, c.flds, c.p3, lookup_cons_str]
theorem att_tails (c : CfR cf) : attK cf "tails" x δ Q X (some (raceD r)) = Q (.dat (ntsD r.far)) δ := by simp [attK, raceD, raceF, c.flds, c.p4, lookup_cons_str]
theorem att_chances (c : CfR cf) : attK cf "chances" x δ Q X (some (raceD r)) = Q (.dat (chD r.die)) δ := by simp [attK, raceD, raceF, c.flds, c.p5, lookup_cons_str]
theorem att_goes (c : CfR cf) : attK cf "goes" x δ Q X (some (raceD r)) = Q (.dat (.lst [.dct (goK r.near), .dct (goK r.far)])) δ := by simp [attK, raceD, raceF, c.flds, c.p6, lookup_cons_str]
theorem att_pauses (c : CfR cf) : attK cf "pauses" x δ Q X (some (raceD r)) = Q (.dat (.lst [.dct (paK r.near), .dct (paK r.far)])) δ := by simp [attK, raceD, raceF, c.flds, c.p7, lookup_cons_str]
end
@[simp] theorem at_0 {α : Type} {a : α} {l : List α} : atI (a :: l) 0 = some a := by simp [atI, ixN]
@[simp] theorem at_1 {α : Type} {a b : α} {l : List α} : atI (a :: b :: l) 1 = some b := by
  simp only [atI, ixN, List.length_cons]
  rw [if_pos (by decide), if_pos (by omega)]
  rfl
@[simp] theorem at_2 {α : Type} {a b c : α} {l : List α} : atI (a :: b :: c :: l) 2 = some c := by
  simp only [atI, ixN, List.length_cons]
  rw [if_pos (by decide), if_pos (by omega)]
  rfl
@[simp] theorem at_3 {α : Type} {a b c d : α} {l : List α} : atI (a :: b :: c :: d :: l) 3 = some d := by
  simp only [atI, ixN, List.length_cons]
  rw [if_pos (by decide), if_pos (by omega)]
  rfl
/-! ### the greatest number -/
def mx (l : List Int) : Int := l.foldr max 0
theorem mx_cons {a : Int} {l : List Int} : mx (a :: l) = max a (mx l) := rfl
theorem mx_nonneg : ∀ l : List Int, 0 ≤ mx l
  | [] => Int.le_refl 0
  | a :: l => by rw [mx_cons]; have := mx_nonneg l; omega
theorem mx_mem {a : Int} : ∀ {l : List Int}, a ∈ l → a ≤ mx l
  | b :: l, h => by
    rw [mx_cons]
    rcases List.mem_cons.mp h with rfl | h
    · omega
    · have := mx_mem h; omega
theorem mx_le {l : List Int} {b : Int} (h0 : 0 ≤ b) (h : ∀ a ∈ l, a ≤ b) : mx l ≤ b := by
  induction l with
  | nil => exact h0
  | cons a l ih =>
    rw [mx_cons]
    have h1 := h a List.mem_cons_self
    have h2 := ih fun a ha => h a (List.mem_cons_of_mem _ ha)
    omega
theorem mx_app {l m : List Int} : mx (l ++ m) = max (mx l) (mx m) := by
  induction l with
  | nil => have := mx_nonneg m; show mx m = max 0 (mx m); omega
  | cons a l ih => rw [List.cons_append, mx_cons, mx_cons, ih]; omega
theorem maxI_eq (l : List Int) : maxI (0 :: l) = some (mx l) := by
  have key : ∀ (l : List Int) (a : Int), ∃ m, maxI (a :: l) = some m ∧ max 0 m = mx (a :: l) := by
    intro l
    induction l with
    | nil => intro a; exact ⟨a, rfl, by show max 0 a = max a 0; omega⟩
    | cons b r ih =>
      intro a
      obtain ⟨m, h1, h2⟩ := ih b
      refine ⟨if a < m then m else a, ?_, ?_⟩
      · show (maxI (b :: r)).map _ = _
        rw [h1]
        rfl
      · rw [mx_cons, ← h2]
        split <;> omega
  cases l with
  | nil => rfl
  | cons a r =>
    obtain ⟨m, h1, h2⟩ := key r a
    show (maxI (a :: r)).map _ = _
    rw [h1, ← h2]
    show some (if (0 : Int) < m then m else 0) = _
    congr 1
    split <;> omega
theorem intsD_map {τ : Type} (g : τ → Int) : ∀ l : List τ, intsD (l.map fun x => .int (g x)) = some (l.map g)
  | [] => rfl
  | x :: r => by
    rw [List.map_cons, List.map_cons]
    show (intsD (r.map _)).map _ = _
    rw [intsD_map g r]
    rfl
theorem intsD_intL (l : List Int) : intsD (intL l) = some l := by
  have := intsD_map (fun i : Int => i) l
  rw [List.map_id'] at this
  exact this
theorem max_lst (l : List Int) : bltD .max [.lst (intL (0 :: l))] = some (.dat (.int (mx l))) := by
  show (match (motive := Option (List Int) → Option R) intsD (intL (0 :: l)) with | some ns => (maxI ns).map fun m => R.dat (.int m) | none => none) = _
  rw [intsD_intL]
  dsimp only
  rw [maxI_eq]
  rfl
/-- the greatest number in notes -/
def most (l : List Nt) : Int := mx (l.map (·.p) ++ (l.filter (·.g)).map (·.n))
theorem most_nonneg (l : List Nt) : 0 ≤ most l := mx_nonneg _
theorem most_eq (l : List Nt) : bltD .max [.lst (.int 0 :: (List.map (fun x : Nt => D.int x.p) l ++ List.map (fun x : Nt => D.int x.n) (List.filter (fun x : Nt => x.g) l)))] = some (.dat (.int (most l))) := by
  have h := max_lst (l.map (·.p) ++ (l.filter (·.g)).map (·.n))
  unfold intL at h
  simp only [List.map_cons, List.map_append, List.map_map, Function.comp_def] at h
  exact h
def S_most (fi : FI) : Prop := fi.mask = [false] ∧ ∀ l : List Nt, l.length ≤ 6 → fi.sem [ntsD l] = some (.ret false (.int (most l)) [])
theorem greatest_in_ok {cf : Cfg} {F : Nat} (c : CfC cf) : S_most ⟨[false], run cf F [false] 2 m_greatest_in⟩ := by
  refine ⟨rfl, fun l hl => ?_⟩
  apply fi_eq rfl
  have h2 : ((l.filter (·.g)).length) ≤ 6 := Nat.le_trans (List.length_filter_le _ _) hl
  simp -implicitDefEqProofs -dsimp [m_greatest_in, ntsD]
  refine ev_lc_map (fun x => .int x.p) (by simp) (fun x hx => by simp -implicitDefEqProofs -dsimp [ev_lcTurn]) ?_
  simp -implicitDefEqProofs -dsimp
  refine ⟨by omega, ?_⟩
  refine ⟨by omega, ?_⟩
  refine ev_lc_filter (·.g) (fun x => .int x.n) (by simp) (fun x hx => ?_) ?_
  · simp -implicitDefEqProofs -dsimp [ev_lcTurn, c.go]
  · simp -implicitDefEqProofs -dsimp
    refine ⟨by omega, by omega, ?_⟩
    rw [most_eq]
    simp -implicitDefEqProofs -dsimp
/-! ### faces -/
def enumI : List Int → Nat → List (Nat × Int)
  | [], _ => []
  | a :: l, n => (n, a) :: enumI l (n + 1)
theorem enumD_intL : ∀ (l : List Int) (n : Nat), enumD (intL l) n = (enumI l n).map (fun p => .tup [.int p.1, .int p.2])
  | [], _ => rfl
  | a :: l, n => by
    show D.tup [.int n, .int a] :: enumD (intL l) (n + 1) = _
    rw [enumD_intL l (n + 1)]
    rfl
def faces (die : List Int) : List Int := ((enumI die 0).filter (fun p => decide (0 < p.2))).map (fun p => (p.1 : Int) + 1)
theorem enumI_len : ∀ (l : List Int) (n : Nat), (enumI l n).length = l.length
  | [], _ => rfl
  | a :: l, n => by simp [enumI, enumI_len l]
theorem faces_len (die : List Int) : (faces die).length ≤ die.length := by
  unfold faces
  rw [List.length_map]
  exact Nat.le_trans (List.length_filter_le _ _) (by rw [enumI_len]; exact Nat.le_refl _)
def S_faces_of (fi : FI) : Prop := fi.mask = [false] ∧ ∀ r : Rc, r.die.length ≤ 6 → fi.sem [raceD r] = some (.ret true (.lst (intL (faces r.die))) [])
theorem faces_of_ok {cf : Cfg} {F : Nat} (c : CfR cf) : S_faces_of ⟨[false], run cf F [false] 3 m_faces_of⟩ := by
  refine ⟨rfl, fun r hl => ?_⟩
  apply fi_eq rfl
  have h2 := faces_len r.die
  simp -implicitDefEqProofs -dsimp [m_faces_of, att_shares c, dieD]
  rw [show List.map D.int r.die = intL r.die from rfl, enumD_intL]
  refine ev_lc_filter (fun p => decide (0 < p.2)) (fun p => .int ((p.1 : Int) + 1)) (by simp) (fun x hx => ?_) ?_
  · simp -implicitDefEqProofs -dsimp [ev_lcTurn]
  · simp -implicitDefEqProofs -dsimp
    unfold faces at h2
    rw [List.length_map] at h2
    refine ⟨by omega, ?_⟩
    unfold faces intL
    rw [List.map_map]
    rfl
def S_near_size (fi : FI) : Prop := fi.mask = [false] ∧ ∀ r : Rc, r.near.length ≤ 6 → fi.sem [raceD r] = some (.ret false (.int (most r.near)) [])
theorem near_size_ok {cf : Cfg} {F : Nat} (c : CfR cf) (h : Kn cf "greatest_in" S_most) : S_near_size ⟨[false], run cf F [false] 1 m_near_size⟩ := by
  obtain ⟨fi, hf, hm, hs⟩ := h
  refine ⟨rfl, fun r hl => ?_⟩
  apply fi_eq rfl
  simp -implicitDefEqProofs -dsimp [m_near_size, att_starts c, hf]
  exact ev_call_flat (ds := [ntsD r.near]) (by simp [hm]) (by simp) (hs _ hl) rfl (by simp -implicitDefEqProofs -dsimp)
theorem max2 {a b : Int} : bltD .max [.lst [.int a, .int b]] = some (.dat (.int (max a b))) := by
  show some (R.dat (.int (if a < b then b else a))) = _
  congr 3
  split <;> omega
/-- how far from the end a throw can be too great -/
def farSize (r : Rc) : Int := max (most r.far) ((r.die.length : Int) - 1)
def S_far_size (fi : FI) : Prop := fi.mask = [false] ∧ ∀ r : Rc, r.far.length ≤ 6 → fi.sem [raceD r] = some (.ret false (.int (farSize r)) [])
theorem far_size_ok {cf : Cfg} {F : Nat} (c : CfR cf) (h : Kn cf "greatest_in" S_most) : S_far_size ⟨[false], run cf F [false] 1 m_far_size⟩ := by
  obtain ⟨fi, hf, hm, hs⟩ := h
  refine ⟨rfl, fun r hl => ?_⟩
  apply fi_eq rfl
  simp -implicitDefEqProofs -dsimp [m_far_size, att_tails c, att_shares c, hf]
  refine ev_call_flat (ds := [ntsD r.far]) (by simp [hm]) (by simp) (hs _ hl) rfl ?_
  simp -implicitDefEqProofs -dsimp [att_shares c, dieD, max2, show ∀ l, bltD .len [.tup l] = some (.dat (.int l.length)) from fun _ => rfl]
  rfl
end Rl

set_option Elab.async false
set_option linter.all false
set_option maxRecDepth 100000
set_option maxHeartbeats 4000000
/-! Pl G: one throw. -/
namespace Rl
open PySem L2
/-- where a place goes, if it does -/
def goN (l : List Nt) (x : Int) : Option Int := (l.find? fun y => y.g && decide (y.p = x)).map (·.n)
/-- how long is waited there, if it is -/
def paN (l : List Nt) (x : Int) : Option Int := (l.find? fun y => !y.g && decide (y.p = x)).map (·.n)
def goTo (l : List Nt) (x : Int) : Int := (goN l x).getD x
def paAt (l : List Nt) (x : Int) : Int := (paN l x).getD 0
theorem getK_goK : ∀ (l : List Nt) (x : Int), getK (goK l) (.inl x) = (goN l x).map .int
  | [], _ => rfl
  | y :: l, x => by
    have ih := getK_goK l x
    unfold getK goK goN at ih ⊢
    cases hg : y.g
    · simp only [List.filter_cons, hg, List.find?_cons, Bool.false_and] at ih ⊢
      exact ih
    · by_cases h : y.p = x
      · simp [List.filter_cons, hg, h]
      · have h2 : ¬ ((Sum.inl y.p : Key) = Sum.inl x) := fun z => h (Sum.inl.inj z)
        simp only [List.filter_cons, hg, if_true, List.map_cons, List.find?_cons, h2, h, decide_false, Bool.and_false] at ih ⊢
        exact ih
theorem getK_paK : ∀ (l : List Nt) (x : Int), getK (paK l) (.inl x) = (paN l x).map .int
  | [], _ => rfl
  | y :: l, x => by
    have ih := getK_paK l x
    unfold getK paK paN at ih ⊢
    cases hg : y.g
    · by_cases h : y.p = x
      · simp [List.filter_cons, hg, h]
      · have h2 : ¬ ((Sum.inl y.p : Key) = Sum.inl x) := fun z => h (Sum.inl.inj z)
        simp only [List.filter_cons, hg, Bool.not_false, if_true, List.map_cons, List.find?_cons, h2, h, decide_false, Bool.and_false] at ih ⊢
        exact ih
    · simp only [List.filter_cons, hg, List.find?_cons, Bool.not_true, Bool.false_and] at ih ⊢
      exact ih
@[simp] theorem kind_get {l : List (Key × D)} : kindD .get (.dct l) = some () := rfl
@[simp] theorem bmt_get {l : List (Key × D)} {i : Int} {d : D} : bmtD .get (.dct l) [.int i, d] = some (.dat ((getK l (.inl i)).getD d)) := rfl
theorem get_go {l : List Nt} {i j : Int} : (getK (goK l) (.inl i)).getD (.int j) = .int ((goN l i).getD j) := by
  rw [getK_goK]
  cases goN l i <;> rfl
theorem get_pa {l : List Nt} {i j : Int} : (getK (paK l) (.inl i)).getD (.int j) = .int ((paN l i).getD j) := by
  rw [getK_paK]
  cases paN l i <;> rfl
def nearB (r : Rc) (p k : Int) : Int := goTo r.near (p + k)
def farB (r : Rc) (d k : Int) : Option Int :=
  if d - k < 0 then (match r.rule with | .stay => none | .bounce => some (goTo r.far (k - d)) | .done => some (goTo r.far 0)) else some (goTo r.far (d - k))
def optD : Option Int → D
  | none => .non
  | some i => .int i
theorem eq_rule {r : Rul} {s : String} : eqD (.str r.s) (.str (Str.ofString s)) = some (decide (r.s = Str.ofString s)) := by
  cases r <;> simp [Rul.s]
def S_near_behind (fi : FI) : Prop := fi.mask = [false, false, false] ∧ ∀ (r : Rc) (p k : Int), fi.sem [raceD r, .int p, .int k] = some (.ret false (.int (nearB r p k)) [])
theorem near_behind_ok {cf : Cfg} {F : Nat} (c : CfR cf) : S_near_behind ⟨[false, false, false], run cf F [false, false, false] 3 m_near_behind⟩ := by
  refine ⟨rfl, fun r p k => ?_⟩
  apply fi_eq rfl
  simp -implicitDefEqProofs -dsimp [m_near_behind, att_goes c, get_go]
  rfl
def S_far_behind (fi : FI) : Prop := fi.mask = [false, false, false] ∧ ∀ (r : Rc) (d k : Int), fi.sem [raceD r, .int d, .int k] = some (.ret false (optD (farB r d k)) [])
theorem far_behind_ok {cf : Cfg} {F : Nat} (c : CfR cf) : S_far_behind ⟨[false, false, false], run cf F [false, false, false] 4 m_far_behind⟩ := by
  refine ⟨rfl, fun r d k => ?_⟩
  apply fi_eq rfl
  by_cases h : d - k < 0
  · cases hr : r.rule
    · have e : -(d - k) = k - d := by omega
      simp -implicitDefEqProofs -dsimp [m_far_behind, att_goes c, att_word c, get_go, h, hr, Rul.s]
      simp [farB, h, hr, optD, goTo, e]
    · simp -implicitDefEqProofs -dsimp [m_far_behind, att_goes c, att_word c, get_go, h, hr, Rul.s]
      simp [farB, h, hr, optD, goTo]
    · simp -implicitDefEqProofs -dsimp [m_far_behind, att_goes c, att_word c, get_go, h, hr, Rul.s]
      simp [farB, h, hr, optD, goTo]
  · simp -implicitDefEqProofs -dsimp [m_far_behind, att_goes c, att_word c, get_go, h]
    simp [farB, h, optD, goTo]
end Rl

set_option Elab.async false
set_option linter.all false
set_option maxRecDepth 100000
set_option maxHeartbeats 4000000
/-! Pl H: ways. -/
namespace Rl
open PySem L2
def nearNx (r : Rc) (p : Int) : List Int := if most r.near < p then [] else (faces r.die).map (nearB r p)
def farNx (r : Rc) (d : Int) : List Int := if d = 0 then [] else (faces r.die).filterMap (farB r d)
@[simp] theorem flat_int {i : Int} : flatD (.int i) = true := rfl
@[simp] theorem flat_bl {i : Bool} : flatD (.bl i) = true := rfl
@[simp] theorem flat_str {i : Str} : flatD (.str i) = true := rfl
@[simp] theorem flat_non : flatD .non = true := rfl
theorem flat_opt {o : Option Int} : flatD (optD o) = true := by cases o <;> rfl
/-- a call that changes nothing, of data, and hands back something that is no flat thing -/
theorem ev_call_dat {fi : FI} {δ : Env} {X : XX} {Q : R → Env → Prop} {ds : List D} {w : Bool} {d : D} (hm : fi.mask = List.replicate ds.length false) (hs : fi.sem ds = some (.ret w d [])) (hf : flatD d = false) (q : Q (if w then .own d else .dat d) δ) : Ev (callR fi (ds.map .dat)) δ Q X := by
  have hv : ∀ ds : List D, vws δ (ds.map .dat) = some ds := by
    intro ds
    induction ds with
    | nil => rfl
    | cons d r ih =>
      rw [List.map_cons, vws_cons, vw_dat, ih]
  have hg : ∀ ds : List D, ∀ Q : List R → Env → Prop, Q (ds.map .dat) δ → Ev (giveAt (List.replicate ds.length false) (ds.map .dat)) δ Q X := by
    intro ds
    induction ds with
    | nil => intro Q h; exact h
    | cons d r ih =>
      intro Q h
      rw [List.length_cons, List.replicate_succ, List.map_cons, ev_giveAt_f, ev_give_dat]
      exact ih _ h
  have hi : ∀ ds : List D, ins δ (List.replicate ds.length false) (ds.map .dat) = some ds := by
    intro ds
    induction ds with
    | nil => rfl
    | cons d r ih =>
      rw [List.length_cons, List.replicate_succ, List.map_cons]
      show (ins δ (List.replicate r.length false) (r.map .dat)).map (d :: ·) = _
      rw [ih]
      rfl
  have hsl : ∀ ds : List D, slotsAt (List.replicate ds.length false) (ds.map .dat) = [] := by
    intro ds
    induction ds with
    | nil => rfl
    | cons d r ih =>
      rw [List.length_cons, List.replicate_succ, List.map_cons]
      exact ih
  refine ev_call (P := fun _ => True) ?_ ?_
  · unfold callPure
    rw [hv, hm]
    simp [hs, hf]
  · rw [hm]
    refine hg ds _ ?_
    rw [hi, oK_some, hsl]
    exact ⟨List.nodup_nil, _, hs, q⟩
def S_near_nexts (fi : FI) : Prop := fi.mask = [false, false] ∧ ∀ (r : Rc) (p : Int), r.near.length ≤ 6 → r.die.length ≤ 6 → fi.sem [raceD r, .int p] = some (.ret true (.lst (intL (nearNx r p))) [])
theorem near_nexts_ok {cf : Cfg} {F : Nat} (h1 : Kn cf "near_size" S_near_size) (h2 : Kn cf "faces_of" S_faces_of) (h3 : Kn cf "near_behind" S_near_behind) : S_near_nexts ⟨[false, false], run cf F [false, false] 3 m_near_nexts⟩ := by
  obtain ⟨f1, g1, m1, s1⟩ := h1
  obtain ⟨f2, g2, m2, s2⟩ := h2
  obtain ⟨f3, g3, m3, s3⟩ := h3
  refine ⟨rfl, fun r p hl hd => ?_⟩
  apply fi_eq rfl
  have hfl := faces_len r.die
  simp -implicitDefEqProofs -dsimp [m_near_nexts, g1]
  refine ev_call_flat (ds := [raceD r]) (by simp [m1]) (by simp) (s1 r hl) rfl ?_
  simp -implicitDefEqProofs -dsimp
  split
  · rename_i h
    simp [nearNx, h, intL]
  · rename_i h
    simp -implicitDefEqProofs -dsimp [g2]
    refine ev_call_dat (ds := [raceD r]) (by simp [m2]) (s2 r hd) rfl ?_
    simp -implicitDefEqProofs -dsimp
    unfold intL
    refine ev_lc_map (fun k => .int (nearB r p k)) (by simp) (fun k hk => ?_) ?_
    · simp -implicitDefEqProofs -dsimp [ev_lcTurn, g3]
      refine ev_call_flat (ds := [raceD r, .int p, .int k]) (by simp [m3]) (by simp) (s3 r p k) rfl ?_
      simp -implicitDefEqProofs -dsimp
    · simp -implicitDefEqProofs -dsimp
      refine ⟨by omega, ?_⟩
      rw [nearNx, if_neg h, List.map_map]
      rfl
def S_far_nexts (fi : FI) : Prop := fi.mask = [false, false] ∧ ∀ (r : Rc) (p : Int), r.die.length ≤ 6 → fi.sem [raceD r, .int p] = some (.ret true (.lst (intL (farNx r p))) [])
theorem far_nexts_ok {cf : Cfg} {F : Nat} (h2 : Kn cf "faces_of" S_faces_of) (h3 : Kn cf "far_behind" S_far_behind) : S_far_nexts ⟨[false, false], run cf F [false, false] 5 m_far_nexts⟩ := by
  obtain ⟨f2, g2, m2, s2⟩ := h2
  obtain ⟨f3, g3, m3, s3⟩ := h3
  refine ⟨rfl, fun r p hd => ?_⟩
  apply fi_eq rfl
  have hfl := faces_len r.die
  simp -implicitDefEqProofs -dsimp [m_far_nexts]
  split
  · rename_i h
    simp [farNx, h, intL]
  · rename_i h
    simp -implicitDefEqProofs -dsimp [g2]
    refine ev_call_dat (ds := [raceD r]) (by simp [m2]) (s2 r hd) rfl ?_
    simp -implicitDefEqProofs -dsimp
    unfold intL
    refine ev_lc_map (fun k => optD (farB r p k)) (by simp) (fun k hk => ?_) ?_
    · simp -implicitDefEqProofs -dsimp [ev_lcTurn, g3]
      refine ev_call_flat (ds := [raceD r, .int p, .int k]) (by simp [m3]) (by simp) (s3 r p k) flat_opt ?_
      simp -implicitDefEqProofs -dsimp
    · simp -implicitDefEqProofs -dsimp
      refine ⟨by omega, ?_⟩
      refine ev_comp_map (fun k => (farB r p k).map .int) (by simp) (fun k hk => ?_) ?_
      · cases hb : farB r p k
        · simp -implicitDefEqProofs -dsimp [ev_lcTurn, optD]
        · simp -implicitDefEqProofs -dsimp [ev_lcTurn, optD]
      · simp -implicitDefEqProofs -dsimp
        have e : List.filterMap (fun k => Option.map D.int (farB r p k)) (faces r.die) = (farNx r p).map .int := by
          rw [farNx, if_neg h, List.map_filterMap]
        have h5 : ((farNx r p).map D.int).length ≤ 6 := by
          rw [List.length_map, farNx, if_neg h]
          exact Nat.le_trans (List.length_filterMap_le _ _) (by omega)
        rw [e]
        refine ⟨by simpa using (show (farNx r p).length ≤ 16777216 by simpa using Nat.le_trans h5 (by omega)), rfl⟩
end Rl

set_option Elab.async false
set_option linter.all false
set_option maxRecDepth 100000
set_option maxHeartbeats 4000000
/-! Pl I: all ways from a place. -/
namespace Rl
open PySem L2
inductive Reach (nx : Int → List Int) : Int → Int → Prop
  | refl (a : Int) : Reach nx a a
  | step {a b c : Int} : Reach nx a b → c ∈ nx b → Reach nx a c
theorem Reach.closed {nx : Int → List Int} {a b : Int} (h : Reach nx a b) {S : List Int} (ha : a ∈ S) (hc : ∀ x ∈ S, ∀ y ∈ nx x, y ∈ S) : b ∈ S := by
  induction h with
  | refl => exact ha
  | step _ h2 ih => exact hc _ ih _ h2
theorem intL_nil : intL [] = [] := rfl
theorem intL_len {l : List Int} : (intL l).length = l.length := by unfold intL; simp
theorem intL_app {a b : List Int} : intL (a ++ b) = intL a ++ intL b := by unfold intL; simp
theorem intL_one {a : Int} : intL [a] = [.int a] := rfl
theorem intL_inj {a b : List Int} (h : intL a = intL b) : a = b := map_inj (fun _ _ e => D.int.inj e) h
theorem nb_intL {n : Nat} {l : List Int} : (intL l).all (nbD n) = true := by
  unfold intL
  rw [List.all_map, List.all_eq_true]
  intro x _
  cases n <;> rfl
theorem eqD_lstI {a b : List Int} : eqD (.lst (intL a)) (.lst (intL b)) = some (decide (a = b)) := by
  refine eqD_iff (n := 1) (m := 1) nb_intL nb_intL ?_
  rw [decide_eq_true_iff, D.lst.injEq]
  exact ⟨fun h => by rw [h], intL_inj⟩
theorem eqD_tupI {a b : List Int} : eqD (.tup (intL a)) (.tup (intL b)) = some (decide (a = b)) := by
  refine eqD_iff (n := 1) (m := 1) nb_intL nb_intL ?_
  rw [decide_eq_true_iff, D.tup.injEq]
  exact ⟨fun h => by rw [h], intL_inj⟩
/-- a dict that says true of some -/
def seenD (S : List Int) : List (Key × D) := S.map fun x => (.inl x, .bl true)
theorem getK_seen {S : List Int} {x : Int} : (getK (seenD S) (.inl x)).isSome = decide (x ∈ S) := by
  unfold getK seenD
  rw [Option.isSome_map, List.find?_map, Option.isSome_map, Bool.eq_iff_iff, List.find?_isSome, decide_eq_true_iff]
  constructor
  · rintro ⟨y, hy, h⟩
    have : (Sum.inl y : Key) = .inl x := of_decide_eq_true h
    cases this
    exact hy
  · intro h
    exact ⟨x, h, decide_eq_true rfl⟩
theorem getK_in {S : List Int} {x : Int} (h : x ∈ S) : getK (seenD S) (.inl x) = some (.bl true) := by
  have h1 : (getK (seenD S) (.inl x)).isSome = true := by rw [getK_seen]; exact decide_eq_true h
  obtain ⟨v, hv⟩ := Option.isSome_iff_exists.mp h1
  unfold getK seenD at hv
  rw [List.find?_map, Option.map_map] at hv
  obtain ⟨a, ha, rfl⟩ := Option.map_eq_some_iff.mp hv
  unfold getK seenD
  rw [List.find?_map, Option.map_map, ha]
  rfl
theorem getK_out {S : List Int} {x : Int} (h : x ∉ S) : getK (seenD S) (.inl x) = none := by
  have h1 : (getK (seenD S) (.inl x)).isSome = false := by rw [getK_seen]; exact decide_eq_false h
  exact Option.not_isSome_iff_eq_none.mp (by rw [h1]; exact Bool.false_ne_true)
theorem put_seen {S : List Int} {x : Int} (h : x ∉ S) : putKD (seenD S) (.inl x) (.bl true) = seenD (S ++ [x]) := by
  unfold putKD
  rw [if_neg]
  · unfold seenD; simp
  · intro h2
    rw [List.any_eq_true] at h2
    obtain ⟨kv, h3, h4⟩ := h2
    obtain ⟨y, hy, rfl⟩ := List.mem_map.mp h3
    have : (Sum.inl y : Key) = .inl x := of_decide_eq_true h4
    cases this
    exact h hy
theorem put_seen2 {S : List Int} {x : Int} (h : x ∈ S) : putKD (seenD S) (.inl x) (.bl true) = seenD S := by
  unfold putKD
  rw [if_pos]
  · unfold seenD
    rw [List.map_map]
    apply List.map_congr_left
    intro y _
    simp only [Function.comp]
    split <;> rfl
  · rw [List.any_eq_true]
    exact ⟨(.inl x, .bl true), List.mem_map.mpr ⟨x, h, rfl⟩, decide_eq_true rfl⟩
/-- how many of U are not in S -/
def cnt (U S : List Int) : Nat := (U.filter (fun x => decide (x ∉ S))).length
theorem cnt_le {U S : List Int} : cnt U S ≤ U.length := List.length_filter_le _ _
theorem cnt_add {U S : List Int} {y : Int} (hu : y ∈ U) (hs : y ∉ S) : cnt U (S ++ [y]) + 1 ≤ cnt U S := by
  unfold cnt
  induction U with
  | nil => cases hu
  | cons a U ih =>
    rw [List.filter_cons, List.filter_cons]
    by_cases ha : a = y
    · subst ha
      have mono : (U.filter (fun x => decide (x ∉ S ++ [a]))).length ≤ (U.filter (fun x => decide (x ∉ S))).length := by
        clear ih hu
        induction U with
        | nil => exact Nat.le_refl _
        | cons b U ih =>
          rw [List.filter_cons, List.filter_cons]
          by_cases hb : b ∈ S
          · simp [hb] at ih ⊢; exact ih
          · by_cases hb2 : b = a
            · simp [hb2, hs] at ih ⊢; omega
            · simp [hb, hb2] at ih ⊢; exact ih
      simp [hs] at mono ⊢
      exact mono
    · have hu' : y ∈ U := by
        rcases List.mem_cons.mp hu with h | h
        · exact absurd h.symm ha
        · exact h
      have := ih hu'
      by_cases hb : a ∈ S
      · simp [hb] at this ⊢; exact this
      · simp [hb, ha] at this ⊢; exact this
structure WI (nx : Int → List Int) (U : List Int) (b : Int) (S W : List Int) (ex : Int → Prop) (m : Nat) : Prop where
  b_ : b ∈ S
  su : ∀ x ∈ S, x ∈ U
  ws : ∀ x ∈ W, x ∈ S
  re : ∀ x ∈ S, Reach nx b x
  cl : ∀ x ∈ S, x ∉ W → ex x ∨ ∀ y ∈ nx x, y ∈ S
  len : S.length + cnt U S ≤ U.length
  ms : 2 * cnt U S + W.length ≤ m
def stW (r : Rc) (b : Int) (g : Str) (S W : List Int) (x : Option B) : Env := [some (.dat (raceD r)), some (.dat (.int b)), some (.dat (.fn g)), some (.own (.dct (seenD S))), some (.own (.lst (intL W))), x]
theorem ways_ok {cf : Cfg} {F : Nat} {r : Rc} {g : Str} {fi : FI} {nx : Int → List Int} {U : List Int} {b : Int} (hg : cf.fns g = some fi) (hm : fi.mask = [false, false])
    (hs : ∀ p, fi.sem [raceD r, .int p] = some (.ret true (.lst (intL (nx p))) [])) (hU : ∀ p ∈ U, ∀ q ∈ nx p, q ∈ U) (hb : b ∈ U) (hl : U.length ≤ 1000) (hF : 3000 ≤ F) :
    ∃ l, run cf F [false, false, false] 6 m_ways_from [raceD r, .int b, .fn g] = some (.ret true (.lst (intL l)) []) ∧ b ∈ l ∧ (∀ x ∈ l, x ∈ U) ∧ (∀ x ∈ l, Reach nx b x) ∧ (∀ x ∈ l, ∀ y ∈ nx x, y ∈ l) ∧ l.length ≤ U.length := by
  suffices h : Rn ((FI.mk [false, false, false] (run cf F [false, false, false] 6 m_ways_from)).sem [raceD r, .int b, .fn g]) (fun o => ∃ l, o = .ret true (.lst (intL l)) [] ∧ b ∈ l ∧ (∀ x ∈ l, x ∈ U) ∧ (∀ x ∈ l, Reach nx b x) ∧ (∀ x ∈ l, ∀ y ∈ nx x, y ∈ l) ∧ l.length ≤ U.length) by
    obtain ⟨o, h1, l, rfl, h2⟩ := h
    exact ⟨l, h1, h2⟩
  apply fi_rn rfl
  simp -implicitDefEqProofs -dsimp [m_ways_from, putKD]
  have hU1 : 1 ≤ U.length := List.length_pos_of_mem hb
  have hc1 : cnt U [b] + 1 ≤ U.length := by
    have := cnt_add (S := []) hb (by simp)
    have h2 : cnt U [] ≤ U.length := cnt_le
    rw [List.nil_append] at this
    omega
  refine ev_whlM (fun m δ => ∃ S W x, δ = stW r b g S W x ∧ WI nx U b S W (fun _ => False) m ∧ m ≤ 2 * U.length + 1) (2 * U.length + 1) (by omega) ⟨[b], [b], none, rfl, ?_, Nat.le_refl _⟩ ?_
  · refine ⟨by simp, by simpa using hb, by simp, by simpa using Reach.refl b, by simp, ?_, ?_⟩
    · simp only [List.length_singleton]; omega
    · simp only [List.length_singleton]; omega
  · rintro m δ ⟨S, W, x5, rfl, I, hmm⟩
    have eN : eqD (.lst (intL W)) (.lst []) = some (decide (W = [])) := by
      rw [← intL_nil, eqD_lstI]
    by_cases hW : W = []
    · subst hW
      simp -implicitDefEqProofs -dsimp [stW, eN]
      refine ⟨S, ?_, I.b_, I.su, I.re, fun x hx y hy => ?_, Nat.le_trans (Nat.le_add_right _ _) I.len⟩
      · simp [bltD, seenD, intL]
      · rcases I.cl x hx (by simp) with h | h
        · exact h.elim
        · exact h y hy
    · obtain ⟨W', p, rfl⟩ : ∃ W' p, W = W' ++ [p] := ⟨W.dropLast, W.getLast hW, (List.dropLast_concat_getLast hW).symm⟩
      have hp : p ∈ S := I.ws p (by simp)
      have hm1 := I.ms
      rw [List.length_append, List.length_singleton] at hm1
      have eN : eqD (.lst (intL W' ++ [.int p])) (.lst []) = some false := by
        have := @eqD_lstI (W' ++ [p]) []
        simpa [intL_app, intL_one, intL_nil] using this
      simp -implicitDefEqProofs -dsimp [stW, eN, hg, intL_app, intL_one]
      refine ev_call_dat (ds := [raceD r, .int p]) (by simp [hm]) (hs p) rfl ?_
      simp -implicitDefEqProofs -dsimp
      refine ev_frM_map (fun rem δ => ∃ S W x, δ = stW r b g S W x ∧ WI nx U b S W (fun x => x = p) (m - 1) ∧ p ∈ S ∧ (∀ y ∈ nx p, y ∈ S ∨ y ∈ rem) ∧ ∀ y ∈ rem, y ∈ nx p) (by simp) ⟨S, W', x5, rfl, ?_, hp, fun y hy => .inr hy, fun y hy => hy⟩ ?_ ?_
      · refine ⟨I.b_, I.su, fun x hx => I.ws x (by simp [hx]), I.re, fun x hx hw => ?_, I.len, by omega⟩
        by_cases hxp : x = p
        · exact .inl hxp
        · rcases I.cl x hx (by simp [hw, hxp]) with h | h
          · exact h.elim
          · exact .inr h
      · rintro y rem δ ⟨S, W, x, rfl, J, hpS, hr, hq⟩
        refine ⟨_, by simp [stW]; rfl, ?_⟩
        have hyn : y ∈ nx p := hq y List.mem_cons_self
        by_cases hy : y ∈ S
        · simp -implicitDefEqProofs -dsimp [getK_in hy]
          refine ⟨S, W, ⟨_, rfl⟩, J, hpS, fun z hz => ?_, fun z hz => hq z (List.mem_cons_of_mem _ hz)⟩
          rcases hr z hz with h | h
          · exact .inl h
          · rcases List.mem_cons.mp h with rfl | h
            · exact .inl hy
            · exact .inr h
        · have hyU : y ∈ U := hU p (J.su p hpS) y hyn
          have hlen := J.len
          have hms := J.ms
          have h1 : (seenD S).length = S.length := by unfold seenD; simp
          have hca := cnt_add hyU hy
          have e1 : S.length ≤ 16777215 := by omega
          have e2 : W.length < 16777216 := by omega
          simp -implicitDefEqProofs -dsimp [getK_out hy, storeD, appD, h1, intL_len, put_seen hy, e1, e2]
          refine ⟨S ++ [y], W ++ [y], ⟨_, by simp only [stW, intL_app, intL_one]; rfl⟩, ?_, by simp [hpS], fun z hz => ?_, fun z hz => hq z (List.mem_cons_of_mem _ hz)⟩
          · refine ⟨by simp [J.b_], fun z hz => ?_, fun z hz => ?_, fun z hz => ?_, fun z hz hw => ?_, ?_, ?_⟩
            · rcases List.mem_append.mp hz with h | h
              · exact J.su z h
              · rw [List.mem_singleton.mp h]; exact hyU
            · rcases List.mem_append.mp hz with h | h
              · exact List.mem_append_left _ (J.ws z h)
              · exact List.mem_append_right _ h
            · rcases List.mem_append.mp hz with h | h
              · exact J.re z h
              · rw [List.mem_singleton.mp h]; exact (J.re p hpS).step hyn
            · rw [List.mem_append] at hw
              rcases List.mem_append.mp hz with h | h
              · rcases J.cl z h (fun q => hw (.inl q)) with q | q
                · exact .inl q
                · exact .inr fun w hw => List.mem_append_left _ (q w hw)
              · exact absurd (.inr h) hw
            · rw [List.length_append, List.length_singleton]; omega
            · rw [List.length_append, List.length_singleton]; omega
          · rcases hr z hz with h | h
            · exact .inl (List.mem_append_left _ h)
            · rcases List.mem_cons.mp h with rfl | h
              · exact .inl (by simp)
              · exact .inr h
      · rintro δ ⟨S, W, x, rfl, J, hpS, hr, _⟩
        refine ⟨m - 1, by omega, S, W, x, rfl, ⟨J.b_, J.su, J.ws, J.re, fun z hz hw => ?_, J.len, J.ms⟩, by omega⟩
        rcases J.cl z hz hw with h | h
        · subst h
          refine .inr fun y hy => ?_
          rcases hr y hy with q | q
          · exact q
          · cases q
        · exact .inr h
end Rl

set_option Elab.async false
set_option linter.all false
set_option maxRecDepth 100000
set_option maxHeartbeats 4000000
/-! Pl J: can the end be come to. -/
namespace Rl
open PySem L2
theorem enumI_mem : ∀ {l : List Int} {n : Nat} {p : Nat × Int}, p ∈ enumI l n → n ≤ p.1 ∧ p.1 < n + l.length ∧ l[p.1 - n]? = some p.2
  | a :: l, n, p, h => by
    rcases List.mem_cons.mp h with rfl | h
    · simp
    · obtain ⟨h1, h2, h3⟩ := enumI_mem h
      rw [List.length_cons]
      refine ⟨by omega, by omega, ?_⟩
      have : p.1 - n = (p.1 - (n + 1)) + 1 := by omega
      rw [this, List.getElem?_cons_succ]
      exact h3
theorem faces_mem {die : List Int} {k : Int} (h : k ∈ faces die) : 1 ≤ k ∧ k ≤ die.length := by
  unfold faces at h
  obtain ⟨p, hp, rfl⟩ := List.mem_map.mp h
  obtain ⟨h1, h2, h3⟩ := enumI_mem (List.mem_filter.mp hp).1
  omega
theorem goN_some {l : List Nt} {x v : Int} (h : goN l x = some v) : ∃ y ∈ l, y.g = true ∧ y.p = x ∧ y.n = v := by
  unfold goN at h
  obtain ⟨y, hy, rfl⟩ := Option.map_eq_some_iff.mp h
  have h1 := List.find?_some hy
  rw [Bool.and_eq_true, decide_eq_true_iff] at h1
  exact ⟨y, List.mem_of_find?_eq_some hy, h1.1, h1.2, rfl⟩
theorem most_p {l : List Nt} {y : Nt} (h : y ∈ l) : y.p ≤ most l := mx_mem (List.mem_append_left _ (List.mem_map.mpr ⟨y, h, rfl⟩))
theorem most_n {l : List Nt} {y : Nt} (h : y ∈ l) (g : y.g = true) : y.n ≤ most l := mx_mem (List.mem_append_right _ (List.mem_map.mpr ⟨y, List.mem_filter.mpr ⟨h, g⟩, rfl⟩))
theorem goN_bound {l : List Nt} (v : VN l) {x i : Int} (h : goN l x = some i) : 1 ≤ x ∧ x ≤ most l ∧ 0 ≤ i ∧ i ≤ most l ∧ goN l i = none := by
  obtain ⟨y, hy, h1, rfl, rfl⟩ := goN_some h
  refine ⟨(v.pl y hy).1, most_p hy, (v.go y hy h1).1, most_n hy h1, ?_⟩
  cases e : goN l y.n with
  | none => rfl
  | some j =>
    obtain ⟨z, hz, _, h3, _⟩ := goN_some e
    exact absurd h3 ((v.go y hy h1).2.2 z hz)
theorem most_le {l : List Nt} (v : VN l) : most l ≤ 6 := by
  refine mx_le (by omega) fun a ha => ?_
  rcases List.mem_append.mp ha with h | h
  · obtain ⟨y, hy, rfl⟩ := List.mem_map.mp h
    exact (v.pl y hy).2
  · obtain ⟨y, hy, rfl⟩ := List.mem_map.mp h
    rw [List.mem_filter] at hy
    exact (v.go y hy.1 hy.2).2.1
/-- a race whose parts can stand -/
structure RV (r : Rc) : Prop where
  near : VN r.near
  far : VN r.far
  d1 : 1 ≤ r.die.length
  d6 : r.die.length ≤ 6
def upTo (n : Int) : List Int := (List.range (n + 1).toNat).map (fun k : Nat => (k : Int))
theorem mem_upTo {n x : Int} (h : 0 ≤ n) : x ∈ upTo n ↔ 0 ≤ x ∧ x ≤ n := by
  unfold upTo
  rw [List.mem_map]
  constructor
  · rintro ⟨k, hk, rfl⟩
    have := List.mem_range.mp hk
    omega
  · intro h
    exact ⟨x.toNat, List.mem_range.mpr (by omega), by omega⟩
theorem upTo_len {n : Int} : (upTo n).length = (n + 1).toNat := by unfold upTo; simp
theorem near_closed {r : Rc} (v : RV r) {p q : Int} (hp : 0 ≤ p) (h : q ∈ nearNx r p) : 0 ≤ q ∧ q ≤ most r.near + r.die.length := by
  unfold nearNx at h
  split at h
  · cases h
  · rename_i hlt
    obtain ⟨k, hk, rfl⟩ := List.mem_map.mp h
    have h1 := faces_mem hk
    unfold nearB goTo
    cases e : goN r.near (p + k) with
    | none => simp only [Option.getD_none]; omega
    | some i =>
      have := goN_bound v.near e
      simp only [Option.getD_some]; omega
theorem farSize_ge (r : Rc) : most r.far ≤ farSize r ∧ (r.die.length : Int) - 1 ≤ farSize r := by unfold farSize; omega
theorem far_closed {r : Rc} (v : RV r) {p q : Int} (hp : 0 ≤ p) (hp2 : p ≤ farSize r) (h : q ∈ farNx r p) : 0 ≤ q ∧ q ≤ farSize r := by
  have hs := farSize_ge r
  have hto : ∀ x, 0 ≤ x → x ≤ farSize r → 0 ≤ goTo r.far x ∧ goTo r.far x ≤ farSize r := by
    intro x h1 h2
    unfold goTo
    cases e : goN r.far x with
    | none => simp only [Option.getD_none]; omega
    | some i =>
      have := goN_bound v.far e
      simp only [Option.getD_some]; omega
  unfold farNx at h
  split at h
  · cases h
  · rename_i hne
    obtain ⟨k, hk, hb⟩ := List.mem_filterMap.mp h
    have h1 := faces_mem hk
    unfold farB at hb
    split at hb
    · split at hb
      · cases hb
      · cases (Option.some.inj hb)
        exact hto _ (by omega) (by omega)
      · cases (Option.some.inj hb)
        exact hto _ (by omega) (by omega)
    · cases (Option.some.inj hb)
      exact hto _ (by omega) (by omega)
def S_ways (fi : FI) : Prop := fi.mask = [false, false, false] ∧ ∀ r, RV r →
  (∀ p, 0 ≤ p → p ≤ most r.near → ∃ l, fi.sem [raceD r, .int p, .fn "near_nexts"] = some (.ret true (.lst (intL l)) []) ∧ p ∈ l ∧ l.length ≤ 1000 ∧ (∀ x ∈ l, Reach (nearNx r) p x) ∧ ∀ x ∈ l, ∀ y ∈ nearNx r x, y ∈ l) ∧
  (∀ p, 0 ≤ p → p ≤ farSize r → ∃ l, fi.sem [raceD r, .int p, .fn "far_nexts"] = some (.ret true (.lst (intL l)) []) ∧ p ∈ l ∧ l.length ≤ 1000 ∧ (∀ x ∈ l, Reach (farNx r) p x) ∧ ∀ x ∈ l, ∀ y ∈ farNx r x, y ∈ l)
theorem ways_from_ok {cf : Cfg} {F : Nat} (hF : 3000 ≤ F) (h1 : Kn cf "near_nexts" S_near_nexts) (h2 : Kn cf "far_nexts" S_far_nexts) : S_ways ⟨[false, false, false], run cf F [false, false, false] 6 m_ways_from⟩ := by
  obtain ⟨f1, g1, m1, s1⟩ := h1
  obtain ⟨f2, g2, m2, s2⟩ := h2
  refine ⟨rfl, fun r v => ⟨fun p p0 p1 => ?_, fun p p0 p1 => ?_⟩⟩
  · have hn := most_nonneg r.near
    have hn6 := most_le v.near
    have hd := v.d6
    obtain ⟨l, a1, a2, a3, a4, a5, a6⟩ := ways_ok (cf := cf) (F := F) (r := r) (g := "near_nexts") (nx := nearNx r) (U := upTo (most r.near + r.die.length)) (b := p) g1 m1 (fun p => s1 r p v.near.len v.d6) (fun x hx y hy => by
      rw [mem_upTo (by omega)] at hx ⊢
      exact near_closed v hx.1 hy) (by rw [mem_upTo (by omega)]; omega) (by rw [upTo_len]; omega) hF
    rw [upTo_len] at a6
    exact ⟨l, a1, a2, by omega, a4, a5⟩
  · have hn := farSize_ge r
    have hn6 : farSize r ≤ 6 := by have := most_le v.far; have := v.d6; unfold farSize; omega
    have hd := v.d1
    obtain ⟨l, a1, a2, a3, a4, a5, a6⟩ := ways_ok (cf := cf) (F := F) (r := r) (g := "far_nexts") (nx := farNx r) (U := upTo (farSize r)) (b := p) g2 m2 (fun p => s2 r p v.d6) (fun x hx y hy => by
      rw [mem_upTo (by omega)] at hx ⊢
      exact far_closed v hx.1 hx.2 hy) (by rw [mem_upTo (by omega)]; omega) (by rw [upTo_len]; omega) hF
    rw [upTo_len] at a6
    exact ⟨l, a1, a2, by omega, a4, a5⟩
/-- from everywhere the end can be come to -/
structure EndsOK (r : Rc) : Prop where
  near : ∀ p, 0 ≤ p → p ≤ most r.near → goN r.near p = none → ∃ q, Reach (nearNx r) p q ∧ most r.near < q
  far : ∀ d, 1 ≤ d → d ≤ farSize r → goN r.far d = none → Reach (farNx r) d 0
theorem max_ne {l : List Int} (h : l ≠ []) : ∃ m, bltD .max [.lst (intL l)] = some (.dat (.int m)) ∧ ∀ c, 0 ≤ c → (m ≤ c ↔ ∀ x ∈ l, x ≤ c) := by
  cases l with
  | nil => exact absurd rfl h
  | cons a r =>
    have key : ∀ (l : List Int) (a : Int), ∃ m, maxI (a :: l) = some m ∧ ∀ c, (m ≤ c ↔ ∀ x ∈ a :: l, x ≤ c) := by
      intro l
      induction l with
      | nil => intro a; exact ⟨a, rfl, by simp⟩
      | cons b r ih =>
        intro a
        obtain ⟨m, h1, h2⟩ := ih b
        refine ⟨if a < m then m else a, ?_, fun c => ?_⟩
        · show (maxI (b :: r)).map _ = _
          rw [h1]
          rfl
        · rw [List.forall_mem_cons, ← h2 c]
          split <;> omega
    obtain ⟨m, h1, h2⟩ := key r a
    refine ⟨m, ?_, fun c _ => h2 c⟩
    show (match (motive := Option (List Int) → Option R) intsD (intL (a :: r)) with | some ns => (maxI ns).map fun m => R.dat (.int m) | none => none) = _
    rw [intsD_intL]
    dsimp only
    rw [h1]
    rfl
theorem range0 {b : Int} : rangeD 0 b = (List.range b.toNat).map (fun k : Nat => .int (k : Int)) := by
  unfold rangeD
  rw [Int.sub_zero]
  apply List.map_congr_left
  intro k _
  rw [Int.zero_add]
theorem range1 {b : Int} : rangeD 1 (b + 1) = (List.range b.toNat).map (fun k : Nat => .int (1 + (k : Int))) := by
  unfold rangeD
  rw [show b + 1 - 1 = b by omega]
def S_has_end (fi : FI) : Prop := fi.mask = [false] ∧ ∀ r, RV r → ∃ b, fi.sem [raceD r] = some (.ret false (.bl b) []) ∧ (b = true ↔ EndsOK r)
theorem has_end_ok {cf : Cfg} {F : Nat} (c : CfR cf) (h1 : Kn cf "near_size" S_near_size) (h2 : Kn cf "far_size" S_far_size) (h3 : Kn cf "ways_from" S_ways) (k1 : (cf.fns "near_nexts").isSome = true) (k2 : (cf.fns "far_nexts").isSome = true) : S_has_end ⟨[false], run cf F [false] 6 m_has_end⟩ := by
  obtain ⟨f1, g1, m1, s1⟩ := h1
  obtain ⟨f2, g2, m2, s2⟩ := h2
  obtain ⟨f3, g3, m3, s3⟩ := h3
  obtain ⟨n1, k1⟩ := Option.isSome_iff_exists.mp k1
  obtain ⟨n2, k2⟩ := Option.isSome_iff_exists.mp k2
  refine ⟨rfl, fun r v => ?_⟩
  suffices h : Rn ((FI.mk [false] (run cf F [false] 6 m_has_end)).sem [raceD r]) (fun o => ∃ b, o = .ret false (.bl b) [] ∧ (b = true ↔ EndsOK r)) by
    obtain ⟨o, h1, b, rfl, h2⟩ := h
    exact ⟨b, h1, h2⟩
  obtain ⟨w1, w2⟩ := s3 r v
  have hn := most_nonneg r.near
  have hn6 := most_le v.near
  have hfs := farSize_ge r
  have hf6 : farSize r ≤ 6 := by have := most_le v.far; have := v.d6; unfold farSize; omega
  have hd1 := v.d1
  have r1 : rngOk (most r.near + 1) = true := by unfold rngOk; rw [decide_eq_true (by omega), decide_eq_true (by omega)]; rfl
  have r2 : rngOk (farSize r + 1) = true := by unfold rngOk; rw [decide_eq_true (by omega), decide_eq_true (by omega)]; rfl
  have r3 : rngOk 1 = true := by decide +kernel
  apply fi_rn rfl
  simp -implicitDefEqProofs -dsimp [m_has_end, g1]
  refine ev_call_flat (ds := [raceD r]) (by simp [m1]) (by simp) (s1 r v.near.len) rfl ?_
  simp -implicitDefEqProofs -dsimp [g2]
  refine ev_call_flat (ds := [raceD r]) (by simp [m2]) (by simp) (s2 r v.far.len) rfl ?_
  simp -implicitDefEqProofs -dsimp [r1]
  rw [range0]
  refine ev_lc_filter (fun k : Nat => (goN r.near (k : Int)).isNone) (fun k : Nat => .int (k : Int)) (by simp) (fun k hk => ?_) ?_
  · cases e : goN r.near (k : Int) <;> simp -implicitDefEqProofs -dsimp [ev_lcTurn, att_goes c, getK_goK, e]
  have hL : (List.filter (fun k : Nat => (goN r.near (k : Int)).isNone) (List.range (most r.near + 1).toNat)).length ≤ 7 := by
    refine Nat.le_trans (List.length_filter_le _ _) ?_
    rw [List.length_range]; omega
  · simp -implicitDefEqProofs -dsimp
    refine ⟨by omega, ?_⟩
    refine ev_frM_map (fun rem δ => ∃ x done, δ = [some (.dat (raceD r)), some (.dat (.int (most r.near))), some (.dat (.int (farSize r))), x, none, none] ∧ List.filter (fun k : Nat => (goN r.near (k : Int)).isNone) (List.range (most r.near + 1).toNat) = done ++ rem ∧ ∀ k ∈ done, ∃ q, Reach (nearNx r) (k : Nat) q ∧ most r.near < q) (by simp) ⟨_, [], rfl, by simp, by simp⟩ ?_ ?_
    · rintro k rem δ ⟨x, done, rfl, hd, hq⟩
      refine ⟨_, by simp; rfl, ?_⟩
      have hk : k ∈ List.filter (fun k : Nat => (goN r.near (k : Int)).isNone) (List.range (most r.near + 1).toNat) := by rw [hd]; simp
      rw [List.mem_filter, List.mem_range] at hk
      obtain ⟨l, a1, a2, a3, a4, a5⟩ := w1 (k : Int) (by omega) (by omega)
      obtain ⟨m, b1, b2⟩ := max_ne (l := l) (fun h => by rw [h] at a2; cases a2)
      simp -implicitDefEqProofs -dsimp [g3, k1]
      refine ev_call_dat (ds := [raceD r, .int k, .fn "near_nexts"]) (by simp [m3]) a1 rfl ?_
      simp -implicitDefEqProofs -dsimp
      unfold intL at b1 ⊢
      refine ev_lc_map (fun i => .int i) (by simp) (fun k hk => by simp -implicitDefEqProofs -dsimp [ev_lcTurn]) ?_
      have a3' : l.length ≤ 16777216 := by omega
      simp -implicitDefEqProofs -dsimp [a3', b1]
      by_cases hle : m ≤ most r.near
      · have hall := (b2 _ hn).mp hle
        simp -implicitDefEqProofs -dsimp [hle]
        intro E
        obtain ⟨q, q1, q2⟩ := E.near k (by omega) (by omega) (Option.isNone_iff_eq_none.mp hk.2)
        have := hall q (q1.closed a2 a5)
        omega
      · simp -implicitDefEqProofs -dsimp [hle]
        refine ⟨done ++ [k], by simp [hd], fun k' hk' => ?_⟩
        rcases List.mem_append.mp hk' with h | h
        · exact hq k' h
        · rw [List.mem_singleton.mp h]
          have : ¬ ∀ x ∈ l, x ≤ most r.near := fun z => hle ((b2 _ hn).mpr z)
          obtain ⟨q, hq1⟩ := Classical.not_forall.mp this
          obtain ⟨hq2, hq3⟩ := Classical.not_imp.mp hq1
          exact ⟨q, a4 q hq2, by omega⟩
    · rintro δ ⟨x, done, rfl, hd, hq⟩
      have hN : ∀ p, 0 ≤ p → p ≤ most r.near → goN r.near p = none → ∃ q, Reach (nearNx r) p q ∧ most r.near < q := by
        intro p p0 p1 p2
        have : p.toNat ∈ done := by
          have hm : p.toNat ∈ List.filter (fun k : Nat => (goN r.near (k : Int)).isNone) (List.range (most r.near + 1).toNat) := by
            rw [List.mem_filter, List.mem_range]
            have e : ((p.toNat : Nat) : Int) = p := by omega
            refine ⟨by omega, ?_⟩
            rw [e, p2]
            rfl
          rw [hd, List.append_nil] at hm
          exact hm
        have := hq _ this
        rwa [show ((p.toNat : Nat) : Int) = p by omega] at this
      simp -implicitDefEqProofs -dsimp [r2, r3]
      rw [range1]
      refine ev_lc_filter (fun k : Nat => (goN r.far (1 + (k : Int))).isNone) (fun k : Nat => .int (1 + (k : Int))) (by simp) (fun k hk => ?_) ?_
      · cases e : goN r.far (1 + (k : Int)) <;> simp -implicitDefEqProofs -dsimp [ev_lcTurn, att_goes c, getK_goK, e]
      have hL : (List.filter (fun k : Nat => (goN r.far (1 + (k : Int))).isNone) (List.range (farSize r).toNat)).length ≤ 7 := by
        refine Nat.le_trans (List.length_filter_le _ _) ?_
        rw [List.length_range]; omega
      simp -implicitDefEqProofs -dsimp
      refine ⟨by omega, ?_⟩
      refine ev_frM_map (fun rem δ => ∃ y done, δ = [some (.dat (raceD r)), some (.dat (.int (most r.near))), some (.dat (.int (farSize r))), x, y, none] ∧ List.filter (fun k : Nat => (goN r.far (1 + (k : Int))).isNone) (List.range (farSize r).toNat) = done ++ rem ∧ ∀ k ∈ done, Reach (farNx r) (1 + (k : Nat)) 0) (by simp) ⟨_, [], rfl, by simp, by simp⟩ ?_ ?_
      · rintro k rem δ ⟨y, done, rfl, hd, hq⟩
        refine ⟨_, by simp; rfl, ?_⟩
        have hk : k ∈ List.filter (fun k : Nat => (goN r.far (1 + (k : Int))).isNone) (List.range (farSize r).toNat) := by rw [hd]; simp
        rw [List.mem_filter, List.mem_range] at hk
        obtain ⟨l, a1, a2, a3, a4, a5⟩ := w2 (1 + (k : Int)) (by omega) (by omega)
        simp -implicitDefEqProofs -dsimp [g3, k2]
        refine ev_call_dat (ds := [raceD r, .int (1 + k), .fn "far_nexts"]) (by simp [m3]) a1 rfl ?_
        by_cases h0 : (0 : Int) ∈ l
        · simp -implicitDefEqProofs -dsimp [inD_intL, h0]
          refine ⟨done ++ [k], by simp [hd], fun k' hk' => ?_⟩
          rcases List.mem_append.mp hk' with h | h
          · exact hq k' h
          · rw [List.mem_singleton.mp h]
            exact a4 0 h0
        · simp -implicitDefEqProofs -dsimp [inD_intL, h0]
          intro E
          have := E.far (1 + k) (by omega) (by omega) (Option.isNone_iff_eq_none.mp hk.2)
          exact h0 (this.closed a2 a5)
      · rintro δ ⟨y, done, rfl, hd, hq⟩
        simp -implicitDefEqProofs -dsimp
        refine ⟨hN, fun d d1 d2 d3 => ?_⟩
        have : (d - 1).toNat ∈ done := by
          have hm : (d - 1).toNat ∈ List.filter (fun k : Nat => (goN r.far (1 + (k : Int))).isNone) (List.range (farSize r).toNat) := by
            rw [List.mem_filter, List.mem_range]
            have e : 1 + (((d - 1).toNat : Nat) : Int) = d := by omega
            refine ⟨by omega, ?_⟩
            rw [e, d3]
            rfl
          rw [hd, List.append_nil] at hm
          exact hm
        have := hq _ this
        rwa [show 1 + (((d - 1).toNat : Nat) : Int) = d by omega] at this
end Rl

set_option Elab.async false
set_option linter.all false
set_option maxRecDepth 100000
set_option maxHeartbeats 4000000
/-! Pl K: a race is made. -/
namespace Rl
open PySem L2
theorem at_last {α : Type} {l : List α} : atI l (-1) = l.getLast? := by
  unfold atI ixN
  rw [if_neg (by decide)]
  by_cases h : l.length = 0
  · have : l = [] := List.length_eq_zero_iff.mp h
    subst this
    rfl
  · rw [if_pos (by omega)]
    rw [List.getLast?_eq_getElem?]
    show l[(-1 + (l.length : Int)).toNat]? = _
    congr 1
    omega
def gcdF (die : List Int) : Nat := (faces die).foldl (fun (g : Nat) k => Nat.gcd g k.natAbs) 0
/-- a die -/
structure VD (die : List Int) : Prop where
  d1 : 1 ≤ die.length
  d6 : die.length ≤ 6
  sh : ∀ s ∈ die, 0 ≤ s ∧ s ≤ 99
  la : ∀ s, die.getLast? = some s → s ≠ 0
  gc : gcdF die = 1
@[simp] theorem len_tup {l : List D} : bltD .len [.tup l] = some (.dat (.int l.length)) := rfl
@[simp] theorem len_lst {l : List D} : bltD .len [.lst l] = some (.dat (.int l.length)) := rfl
def S_is_die (fi : FI) : Prop := fi.mask = [false] ∧ ∀ die, VD die → fi.sem [dieD die] = some (.ret false (.bl true) [])
theorem log2_small {n : Nat} (h : n < 2 ^ 60) : n.log2 < 9000 := by
  by_cases h0 : n = 0
  · subst h0; simp
  · have := (Nat.log2_lt h0).mpr h
    omega
theorem is_die_ok {cf : Cfg} {F : Nat} (c : CfC cf) (h1 : Kn cf "is_within" S_is_within) (h2 : Kn cf "common" S_common) : S_is_die ⟨[false], run cf F [false] 4 m_is_die⟩ := by
  obtain ⟨f1, g1, m1, s1⟩ := h1
  obtain ⟨f2, g2, m2, s2⟩ := h2
  refine ⟨rfl, fun die v => ?_⟩
  apply fi_eq rfl
  have hd1 := v.d1
  have hd6 := v.d6
  have hne : die ≠ [] := by intro h; rw [h] at hd1; simp at hd1
  have hlast : (intL die).getLast? = some (.int (die.getLast hne)) := by
    unfold intL
    rw [List.getLast?_map, List.getLast?_eq_some_getLast hne]
    rfl
  have hl0 : die.getLast hne ≠ 0 := v.la _ (List.getLast?_eq_some_getLast hne)
  have a1 : (1 : Int) ≤ die.length := by omega
  have a2 : (die.length : Int) ≤ 6 := by omega
  have a3 : die.length ≤ 16777216 := by omega
  have dE : dieD die = .tup (intL die) := rfl
  simp -implicitDefEqProofs -dsimp [m_is_die, dE, isiD, tyN, tyD, intL_len, a1, a2, c.mf, c.ms]
  refine ev_lc_map (f := D.int) (xs := die) (fun _ => .bl true) (by simp) (fun s hs => ?_) ?_
  · have hs2 := v.sh s hs
    simp -implicitDefEqProofs -dsimp [ev_lcTurn, g1, c.ms]
    refine ev_call_flat (ds := [.int s, .int 0, .int 99]) (by simp [m1]) (by simp) (s1 _ _ _ rfl) rfl ?_
    simp -implicitDefEqProofs -dsimp [hs2]
  · simp -implicitDefEqProofs -dsimp [all_lst (fun _ => true), a3, at_last, hlast, hl0, enumD_intL]
    refine ev_frM_map (fun rem δ => ∃ (g : Nat) (x y : Option B), δ = [some (.dat (.tup (intL die))), some (.dat (.int g)), x, y] ∧ ((rem.filter (fun p => decide (0 < p.2))).map (fun p => (p.1 : Int) + 1)).foldl (fun (g : Nat) k => Nat.gcd g k.natAbs) g = 1 ∧ g ≤ 101 ∧ ∀ p ∈ rem, p.1 ≤ 100) (by simp) ⟨0, none, none, rfl, v.gc, by omega, fun p hp => ?_⟩ ?_ ?_
    · have := (enumI_mem hp).2.1
      omega
    · rintro p rem δ ⟨g, x, y, rfl, hg, hg1, hr⟩
      refine ⟨_, by simp; rfl, ?_⟩
      have hr1 := hr p List.mem_cons_self
      have hr2 : ∀ q ∈ rem, q.1 ≤ 100 := fun q hq => hr q (List.mem_cons_of_mem _ hq)
      by_cases hp : 0 < p.2
      · simp -implicitDefEqProofs -dsimp [hp, g2]
        refine ev_call_flat (ds := [.int g, .int (p.1 + 1)]) (by simp [m2]) (by simp) (s2 _ _ ?_ ?_) rfl ?_
        · have := log2_small (n := (g : Int).natAbs) (by omega)
          omega
        · exact log2_small (by omega)
        · simp -implicitDefEqProofs -dsimp
          simp only [List.filter_cons, hp, decide_true, if_true, List.map_cons, List.foldl_cons] at hg
          refine ⟨_, rfl, hg, ?_, fun a b h => hr2 _ h⟩
          exact Nat.le_trans (Nat.gcd_le_right _ (by omega)) (by omega)
      · simp -implicitDefEqProofs -dsimp [hp]
        simp only [List.filter_cons, hp, decide_false, Bool.false_eq_true, if_false] at hg
        exact ⟨g, rfl, hg, hg1, fun a b h => hr2 _ h⟩
    · rintro δ ⟨g, x, y, rfl, hg, _⟩
      simp only [List.filter_nil, List.map_nil, List.foldl_nil] at hg
      subst hg
      simp -implicitDefEqProofs -dsimp
/-! ### the constructor -/
@[simp] theorem seq_die {l : List Int} : seqD (dieD l) = some (l.map D.int) := rfl
@[simp] theorem seq_nts {l : List Nt} : seqD (ntsD l) = some (l.map Nt.d) := rfl
theorem fldS_race {cf : Cfg} (c : CfR cf) {f : Str} {v : D} {fs : List (Str × D)} (h : f ∈ (["shares", "word", "starts", "tails", "chances", "goes", "pauses"] : List Str)) : fldS cf f v (.ins "Race" fs) = if fs.length < 900 then some (.ins "Race" (putFD f v fs)) else none := by
  unfold fldS
  dsimp only
  rw [c.flds]
  dsimp only
  rw [decide_eq_true h, Bool.true_and]
  by_cases h2 : fs.length < 900 <;> simp [h2]
theorem dcPut_ok : ∀ {l acc : List (Key × D)}, (acc ++ l).Pairwise (fun a b => a.1 ≠ b.1) → acc.length + l.length ≤ 16777216 → dcPut acc l = some (acc ++ l)
  | [], acc, _, _ => by rw [dcPut, List.append_nil]
  | p :: r, acc, h, hl => by
    rw [List.length_cons] at hl
    rw [dcPut, if_pos (by simp; omega)]
    have hp : putKD acc p.1 p.2 = acc ++ [p] := by
      unfold putKD
      rw [if_neg]
      intro h2
      rw [List.any_eq_true] at h2
      obtain ⟨kv, h3, h4⟩ := h2
      rw [List.pairwise_append] at h
      exact h.2.2 kv h3 p List.mem_cons_self (of_decide_eq_true h4)
    rw [hp]
    have e : acc ++ p :: r = (acc ++ [p]) ++ r := by simp
    rw [e] at h ⊢
    exact dcPut_ok h (by rw [List.length_append, List.length_singleton]; omega)
theorem keys_pw {l : List Nt} (v : VN l) (c : Nt → Bool) : ((l.filter c).map fun x => ((.inl x.p : Key), D.int x.n)).Pairwise (fun a b => a.1 ≠ b.1) := by
  rw [List.pairwise_map]
  refine List.Pairwise.imp ?_ (v.asc.filter c)
  intro a b h e
  have := Sum.inl.inj e
  omega
theorem filterMap_if {α β : Type} (c : α → Bool) (g : α → β) (l : List α) : l.filterMap (fun x => if c x then some (g x) else none) = (l.filter c).map g := by
  induction l with
  | nil => rfl
  | cons x r ih =>
    rw [List.filterMap_cons, List.filter_cons]
    cases c x <;> simp [ih]
theorem dc_go {l : List Nt} (v : VN l) : dcPut [] (l.filterMap fun x => if x.g then some ((.inl x.p : Key), D.int x.n) else none) = some (goK l) := by
  rw [filterMap_if (fun x : Nt => x.g) (fun x => ((.inl x.p : Key), D.int x.n)), dcPut_ok (by rw [List.nil_append]; exact keys_pw v _) (by
    rw [List.length_map]
    have := List.length_filter_le (fun x : Nt => x.g) l
    have := v.len
    simp only [List.length_nil]
    omega)]
  rfl
theorem dc_pa {l : List Nt} (v : VN l) : dcPut [] (l.filterMap fun x => if !x.g then some ((.inl x.p : Key), D.int x.n) else none) = some (paK l) := by
  rw [filterMap_if (fun x : Nt => !x.g) (fun x => ((.inl x.p : Key), D.int x.n)), dcPut_ok (by rw [List.nil_append]; exact keys_pw v _) (by
    rw [List.length_map]
    have := List.length_filter_le (fun x : Nt => !x.g) l
    have := v.len
    simp only [List.length_nil]
    omega)]
  rfl
theorem in_rules {r : Rul} : inD (.str r.s) [.str "bounce", .str "done", .str "stay"] = some true := by
  cases r <;> decide +kernel
theorem RV.of {r : Rc} (h1 : VD r.die) (h2 : VN r.near) (h3 : VN r.far) : RV r := ⟨h2, h3, h1.d1, h1.d6⟩
theorem sum_tup {l : List Int} : bltD .sum [.tup (intL l)] = some (.dat (.int l.sum)) := by
  show (intsD (intL l)).map _ = _
  rw [intsD_intL]
  rfl
theorem sum_pos {die : List Int} (v : VD die) : 0 < die.sum ∧ die.sum ≤ 600 := by
  have hne : die ≠ [] := by intro h; have := v.d1; rw [h] at this; simp at this
  have key : ∀ l : List Int, (∀ s ∈ l, 0 ≤ s ∧ s ≤ 99) → 0 ≤ l.sum ∧ l.sum ≤ 100 * l.length ∧ ∀ s ∈ l, s ≤ l.sum := by
    intro l
    induction l with
    | nil => intro _; simp
    | cons a l ih =>
      intro h
      have h1 := h a List.mem_cons_self
      obtain ⟨i1, i2, i3⟩ := ih fun s hs => h s (List.mem_cons_of_mem _ hs)
      rw [List.sum_cons, List.length_cons]
      refine ⟨by omega, by omega, fun s hs => ?_⟩
      rcases List.mem_cons.mp hs with rfl | hs
      · omega
      · have := i3 s hs; omega
  obtain ⟨k1, k2, k3⟩ := key die v.sh
  have h1 := k3 _ (List.getLast_mem hne)
  have h2 := v.sh _ (List.getLast_mem hne)
  have h3 := v.la _ (List.getLast?_eq_some_getLast hne)
  have h4 := v.d6
  omega
def S_race_init (fi : FI) : Prop := fi.mask = [true, false, false, false, false] ∧ ∀ r : Rc, VD r.die → VN r.near → VN r.far → EndsOK r → fi.sem [.ins "Race" [], dieD r.die, .str r.rule.s, ntsD r.near, ntsD r.far] = some (.ret false .non [raceD r])
theorem race_init_ok {cf : Cfg} {F : Nat} (c : CfC cf) (cr : CfR cf) (h1 : Kn cf "is_die" S_is_die) (h2 : Kn cf "are_notes" S_are_notes) (h3 : Kn cf "fraction" S_fraction) (h4 : Kn cf "has_end" S_has_end) : S_race_init ⟨[true, false, false, false, false], run cf F [true, false, false, false, false] 9 m_Race_init⟩ := by
  obtain ⟨f1, g1, m1, s1⟩ := h1
  obtain ⟨f2, g2, m2, s2⟩ := h2
  obtain ⟨f3, g3, m3, s3⟩ := h3
  obtain ⟨f4, g4, m4, s4⟩ := h4
  refine ⟨rfl, fun r vd vn vf e => ?_⟩
  apply fi_eq rfl
  have hsum := sum_pos vd
  simp -implicitDefEqProofs -dsimp [m_Race_init, g1]
  refine ev_call_flat (ds := [dieD r.die]) (by simp [m1]) (by simp) (s1 _ vd) rfl ?_
  simp -implicitDefEqProofs -dsimp [isiD, tyD, tyN, c.ru, in_rules]
  rw [ev_frM_cons]
  simp -implicitDefEqProofs -dsimp [g2]
  refine ev_call_flat (ds := [ntsD r.near]) (by simp [m2]) (by simp) (s2 _ vn) rfl ?_
  simp -implicitDefEqProofs -dsimp
  rw [ev_frM_cons]
  simp -implicitDefEqProofs -dsimp [g2]
  refine ev_call_flat (ds := [ntsD r.far]) (by simp [m2]) (by simp) (s2 _ vf) rfl ?_
  simp -implicitDefEqProofs -dsimp
  rw [ev_frM_nil]
  simp -implicitDefEqProofs -dsimp [fldS_race cr, putFD]
  have hd6 := vd.d6
  have hs0 : r.die.sum ≠ 0 := by omega
  refine ev_lc_map (fun s => ratD (Rat.divInt s r.die.sum)) (by simp) (fun s hs => ?_) ?_
  · have hs2 := vd.sh s hs
    have hdE : dieD r.die = .tup (intL r.die) := rfl
    simp -implicitDefEqProofs -dsimp [ev_lcTurn, g3, hdE, sum_tup]
    refine ev_call_dat (ds := [.int s, .int r.die.sum]) (by simp [m3]) (s3 s r.die.sum hs0 ?_ (log2_small (by omega))) rfl ?_
    · have := log2_small (n := s.natAbs) (by omega)
      omega
    · simp -implicitDefEqProofs -dsimp
      exact hdE.symm
  · have a1 : r.die.length ≤ 16777216 := by omega
    simp -implicitDefEqProofs -dsimp [fldS_race cr, putFD, a1]
    rw [show [ntsD r.near, ntsD r.far] = [r.near, r.far].map ntsD from rfl]
    refine ev_lc_map (fun l => .dct (goK l)) (by simp) (fun l hl => ?_) ?_
    · have vl : VN l := by
        rcases List.mem_cons.mp hl with rfl | hl
        · exact vn
        · rw [List.mem_singleton.mp hl]; exact vf
      simp -implicitDefEqProofs -dsimp [ev_lcTurn]
      refine ev_comp_map (fun x => if x.g then some (.inl x.p, .int x.n) else none) (by simp) (fun x hx => ?_) ?_
      · simp -implicitDefEqProofs -dsimp [ev_dcTurn, c.go]
      · rw [dc_go vl]
        simp -implicitDefEqProofs -dsimp
    · simp -implicitDefEqProofs -dsimp [fldS_race cr, putFD]
      rw [show [ntsD r.near, ntsD r.far] = [r.near, r.far].map ntsD from rfl]
      refine ev_lc_map (fun l => .dct (paK l)) (by simp) (fun l hl => ?_) ?_
      · have vl : VN l := by
          rcases List.mem_cons.mp hl with rfl | hl
          · exact vn
          · rw [List.mem_singleton.mp hl]; exact vf
        simp -implicitDefEqProofs -dsimp [ev_lcTurn]
        refine ev_comp_map (fun x => if !x.g then some (.inl x.p, .int x.n) else none) (by simp) (fun x hx => ?_) ?_
        · simp -implicitDefEqProofs -dsimp [ev_dcTurn, c.wa]
        · rw [dc_pa vl]
          simp -implicitDefEqProofs -dsimp
      · obtain ⟨b, b1, b2⟩ := s4 r (RV.of vd vn vf)
        have hb : b = true := b2.mpr e
        subst hb
        simp -implicitDefEqProofs -dsimp [fldS_race cr, putFD, g4]
        refine ev_call_flat (ds := [raceD r]) (by simp [m4]) (by simp -implicitDefEqProofs -dsimp [raceD, raceF, chD]) b1 rfl ?_
        simp -implicitDefEqProofs -dsimp
        rfl
/-! ### properties and equality -/
def S_prop (fi : FI) (v : Rc → D) : Prop := fi.mask = [false] ∧ ∀ r : Rc, fi.sem [raceD r] = some (.ret false (v r) [])
theorem race_die_ok {cf : Cfg} {F : Nat} (c : CfR cf) : S_prop ⟨[false], run cf F [false] 1 m_Race_die⟩ (fun r => dieD r.die) := ⟨rfl, fun r => fi_eq rfl (by simp -implicitDefEqProofs -dsimp [m_Race_die, att_shares c])⟩
theorem race_rule_ok {cf : Cfg} {F : Nat} (c : CfR cf) : S_prop ⟨[false], run cf F [false] 1 m_Race_rule⟩ (fun r => .str r.rule.s) := ⟨rfl, fun r => fi_eq rfl (by simp -implicitDefEqProofs -dsimp [m_Race_rule, att_word c])⟩
theorem race_near_ok {cf : Cfg} {F : Nat} (c : CfR cf) : S_prop ⟨[false], run cf F [false] 1 m_Race_near⟩ (fun r => ntsD r.near) := ⟨rfl, fun r => fi_eq rfl (by simp -implicitDefEqProofs -dsimp [m_Race_near, att_starts c])⟩
theorem race_far_ok {cf : Cfg} {F : Nat} (c : CfR cf) : S_prop ⟨[false], run cf F [false] 1 m_Race_far⟩ (fun r => ntsD r.far) := ⟨rfl, fun r => fi_eq rfl (by simp -implicitDefEqProofs -dsimp [m_Race_far, att_tails c])⟩
def leastL (r : Rc) : Int := most r.near + most r.far + r.die.length
def S_least (fi : FI) : Prop := fi.mask = [false] ∧ ∀ r : Rc, RV r → fi.sem [raceD r] = some (.ret false (.int (leastL r)) [])
@[simp] theorem len_die {l : List Int} : bltD .len [dieD l] = some (.dat (.int l.length)) := by unfold dieD; simp
theorem race_least_ok {cf : Cfg} {F : Nat} (c : CfR cf) (h : Kn cf "greatest_in" S_most) : S_least ⟨[false], run cf F [false] 1 m_Race_least_length⟩ := by
  obtain ⟨f1, g1, m1, s1⟩ := h
  refine ⟨rfl, fun r v => ?_⟩
  apply fi_eq rfl
  simp -implicitDefEqProofs -dsimp [m_Race_least_length, g1, att_starts c]
  refine ev_call_flat (ds := [ntsD r.near]) (by simp [m1]) (by simp) (s1 _ v.near.len) rfl ?_
  simp -implicitDefEqProofs -dsimp [g1, att_tails c]
  refine ev_call_flat (ds := [ntsD r.far]) (by simp [m1]) (by simp) (s1 _ v.far.len) rfl ?_
  simp -implicitDefEqProofs -dsimp [att_shares c]
  rfl
theorem nb_nt {n : Nat} {x : Nt} : nbD (n + 1) x.d = true := by
  cases n <;> simp [Nt.d, nbD, wd] <;> split <;> exact strOk_of _
theorem nb_nts {n : Nat} {l : List Nt} : nbD (n + 2) (ntsD l) = true := by
  show (l.map Nt.d).all (nbD (n + 1)) = true
  rw [List.all_map, List.all_eq_true]
  intro x _
  exact nb_nt
theorem nb_die {n : Nat} {l : List Int} : nbD (n + 1) (dieD l) = true := nb_intL
theorem nb_rule {n : Nat} {r : Rul} : nbD n (.str r.s) = true := by cases n <;> cases r <;> exact strOk_of _
theorem wd_inj {a b : Bool} (h : wd a = wd b) : a = b := by cases a <;> cases b <;> simp [wd] at h ⊢
theorem Nt.d_inj {a b : Nt} (h : a.d = b.d) : a = b := by
  cases a; cases b
  simp only [Nt.d, D.tup.injEq, List.cons.injEq, D.int.injEq, D.str.injEq, and_true] at h
  obtain ⟨h1, h2, h3⟩ := h
  have := wd_inj h2
  simp_all
theorem ntsD_inj {a b : List Nt} (h : ntsD a = ntsD b) : a = b := map_inj (fun _ _ => Nt.d_inj) (D.tup.inj h)
theorem dieD_inj {a b : List Int} (h : dieD a = dieD b) : a = b := intL_inj (D.tup.inj h)
theorem Rul.s_inj {a b : Rul} (h : a.s = b.s) : a = b := by cases a <;> cases b <;> simp [Rul.s] at h ⊢
theorem eq_die {a b : List Int} : eqD (dieD a) (dieD b) = some (decide (a = b)) := eqD_tupI
theorem eq_nts {a b : List Nt} : eqD (ntsD a) (ntsD b) = some (decide (a = b)) := by
  refine eqD_iff (n := 2) (m := 2) nb_nts nb_nts ?_
  rw [decide_eq_true_iff]
  exact ⟨fun h => by rw [h], ntsD_inj⟩
theorem eq_rul {a b : Rul} : eqD (.str a.s) (.str b.s) = some (decide (a = b)) := by
  refine eqD_iff (n := 0) (m := 0) nb_rule nb_rule ?_
  rw [decide_eq_true_iff, D.str.injEq]
  exact ⟨fun h => by rw [h], Rul.s_inj⟩
@[simp] theorem plO_die {l : List Int} : plO (some (dieD l)) = true := rfl
@[simp] theorem plO_nts {l : List Nt} : plO (some (ntsD l)) = true := rfl
def S_race_eq (fi : FI) : Prop := fi.mask = [false, false] ∧ ∀ r r' : Rc, fi.sem [raceD r, raceD r'] = some (.ret false (.bl (decide (r = r'))) [])
theorem race_eq_ok {cf : Cfg} {F : Nat} (c : CfR cf) : S_race_eq ⟨[false, false], run cf F [false, false] 2 m_Race_eq⟩ := by
  refine ⟨rfl, fun r r' => ?_⟩
  apply fi_eq rfl
  have e1 : isiD (raceD r') (.cls "Race") = some true := by
    unfold raceD isiD
    simp
  have key : decide (r = r') = (decide (r.die = r'.die) && decide (r.rule = r'.rule) && (decide (r.near = r'.near) && decide (r.far = r'.far))) := by
    rw [Bool.eq_iff_iff]
    cases r; cases r'
    simp [and_assoc]
  rw [key]
  by_cases h1 : r.die = r'.die
  · by_cases h2 : r.rule = r'.rule
    · by_cases h3 : r.near = r'.near
      · simp -implicitDefEqProofs -dsimp [m_Race_eq, att_shares c, att_word c, att_starts c, att_tails c, e1, eq_die, eq_rul, eq_nts, h1, h2, h3]
      · simp -implicitDefEqProofs -dsimp [m_Race_eq, att_shares c, att_word c, att_starts c, att_tails c, e1, eq_die, eq_rul, eq_nts, h1, h2, h3]
    · simp -implicitDefEqProofs -dsimp [m_Race_eq, att_shares c, att_word c, att_starts c, att_tails c, e1, eq_die, eq_rul, eq_nts, h1, h2]
  · simp -implicitDefEqProofs -dsimp [m_Race_eq, att_shares c, att_word c, att_starts c, att_tails c, e1, eq_die, eq_rul, eq_nts, h1]
end Rl

set_option Elab.async false
set_option linter.all false
set_option maxRecDepth 100000
set_option maxHeartbeats 4000000
/-! Pl L: the law's own look at a race. -/
namespace Rl
open PySem L2
theorem law_die {r : Rc} : idxD (lawD r) (.str "die") = some (dieD r.die) := by simp [lawD, idxD, getK]
theorem law_rule {r : Rc} : idxD (lawD r) (.str "rule") = some (.str r.rule.s) := by simp [lawD, idxD, getK]
theorem law_near {r : Rc} : idxD (lawD r) (.str "near") = some (ntsD r.near) := by simp [lawD, idxD, getK]
theorem law_far {r : Rc} : idxD (lawD r) (.str "far") = some (ntsD r.far) := by simp [lawD, idxD, getK]
theorem law_most_ok {cf : Cfg} {F : Nat} : S_most ⟨[false], run cf F [false] 3 m_law_most⟩ := by
  refine ⟨rfl, fun l hl => ?_⟩
  apply fi_eq rfl
  have h2 : ((l.filter (·.g)).length) ≤ 6 := Nat.le_trans (List.length_filter_le _ _) hl
  simp -implicitDefEqProofs -dsimp [m_law_most]
  refine ev_lc_map (fun x => .int x.p) (by simp) (fun x hx => by simp -implicitDefEqProofs -dsimp [ev_lcTurn]) ?_
  simp -implicitDefEqProofs -dsimp
  refine ⟨by omega, by omega, ?_⟩
  refine ev_lc_filter (·.g) (fun x => .int x.n) (by simp) (fun x hx => ?_) ?_
  · simp -implicitDefEqProofs -dsimp [ev_lcTurn]
  · simp -implicitDefEqProofs -dsimp
    refine ⟨by omega, by omega, ?_⟩
    rw [most_eq]
    simp -implicitDefEqProofs -dsimp
def S_law_least (fi : FI) : Prop := fi.mask = [false] ∧ ∀ r : Rc, RV r → fi.sem [lawD r] = some (.ret false (.int (leastL r)) [])
theorem law_least_ok {cf : Cfg} {F : Nat} (h : Kn cf "_law_most" S_most) : S_law_least ⟨[false], run cf F [false] 1 m_law_least⟩ := by
  obtain ⟨f1, g1, m1, s1⟩ := h
  refine ⟨rfl, fun r v => ?_⟩
  apply fi_eq rfl
  simp -implicitDefEqProofs -dsimp [m_law_least, g1, law_near]
  refine ev_call_flat (ds := [ntsD r.near]) (by simp [m1]) (by simp) (s1 _ v.near.len) rfl ?_
  simp -implicitDefEqProofs -dsimp [g1, law_far]
  refine ev_call_flat (ds := [ntsD r.far]) (by simp [m1]) (by simp) (s1 _ v.far.len) rfl ?_
  simp -implicitDefEqProofs -dsimp [law_die]
  rfl
theorem getK_put {κ : Type} [DecidableEq κ] {l : List (κ × D)} {k k' : κ} {v : D} : getK (putKD l k v) k' = if k = k' then some v else getK l k' := by
  unfold getK putKD
  by_cases h : (l.any fun kv => decide (kv.1 = k)) = true
  · rw [if_pos h]
    induction l with
    | nil => simp at h
    | cons a r ih =>
      rw [List.map_cons, List.find?_cons, List.find?_cons]
      by_cases ha : a.1 = k
      · rw [if_pos ha]
        by_cases hk : k = k'
        · simp [ha, hk]
        · have : ¬ a.1 = k' := fun z => hk (ha.symm.trans z)
          simp only [ha, hk, decide_false, if_false]
          by_cases hr : (r.any fun kv => decide (kv.1 = k)) = true
          · have := ih hr
            rw [if_neg hk] at this
            exact this
          · have : r.map (fun kv => if kv.1 = k then (kv.1, v) else kv) = r := by
              have e : r.map (fun kv => if kv.1 = k then (kv.1, v) else kv) = r.map id := by
                apply List.map_congr_left
                intro x hx
                rw [if_neg]
                · rfl
                · intro z
                  exact hr (List.any_eq_true.mpr ⟨x, hx, decide_eq_true z⟩)
              rw [e, List.map_id]
            rw [this]
      · rw [if_neg ha]
        have hr : (r.any fun kv => decide (kv.1 = k)) = true := by
          rw [List.any_cons, decide_eq_false ha, Bool.false_or] at h
          exact h
        by_cases hk' : a.1 = k'
        · have : ¬ k = k' := fun z => ha (hk'.trans z.symm)
          simp [hk', this]
        · simp only [hk', decide_false]
          exact ih hr
  · rw [if_neg h, List.find?_append, List.find?_singleton]
    have h2 : l.find? (fun kv => decide (kv.1 = k)) = none := by
      rw [List.find?_eq_none]
      intro x hx z
      exact h (List.any_eq_true.mpr ⟨x, hx, z⟩)
    by_cases hk : k = k'
    · subst hk
      rw [h2]
      simp
    · simp only [hk, decide_false, Bool.false_eq_true, if_false, Option.or_none]
theorem put_len {κ : Type} [DecidableEq κ] {l : List (κ × D)} {k : κ} {v : D} : (putKD l k v).length ≤ l.length + 1 := by
  unfold putKD
  split
  · simp
  · simp
theorem goN_append {l : List Nt} {y : Nt} {x : Int} (h : ∀ z ∈ l, z.p ≠ y.p) : goN (l ++ [y]) x = if y.g = true ∧ y.p = x then some y.n else goN l x := by
  unfold goN
  rw [List.find?_append, List.find?_singleton]
  by_cases hy : y.g = true ∧ y.p = x
  · rw [if_pos hy]
    have : l.find? (fun z => z.g && decide (z.p = x)) = none := by
      rw [List.find?_eq_none]
      intro z hz w
      rw [Bool.and_eq_true, decide_eq_true_iff] at w
      exact h z hz (w.2.trans hy.2.symm)
    rw [this]
    simp [hy]
  · rw [if_neg hy]
    have : (y.g && decide (y.p = x)) = false := by
      rw [Bool.eq_false_iff]
      intro w
      rw [Bool.and_eq_true, decide_eq_true_iff] at w
      exact hy w
    rw [this]
    simp
theorem paN_append {l : List Nt} {y : Nt} {x : Int} (h : ∀ z ∈ l, z.p ≠ y.p) : paN (l ++ [y]) x = if y.g = false ∧ y.p = x then some y.n else paN l x := by
  unfold paN
  rw [List.find?_append, List.find?_singleton]
  by_cases hy : y.g = false ∧ y.p = x
  · rw [if_pos hy]
    have : l.find? (fun z => !z.g && decide (z.p = x)) = none := by
      rw [List.find?_eq_none]
      intro z hz w
      rw [Bool.and_eq_true, decide_eq_true_iff] at w
      exact h z hz (w.2.trans hy.2.symm)
    rw [this]
    simp [hy]
  · rw [if_neg hy]
    have : (!y.g && decide (y.p = x)) = false := by
      rw [Bool.eq_false_iff]
      intro w
      rw [Bool.and_eq_true, decide_eq_true_iff, Bool.not_eq_true'] at w
      exact hy w
    rw [this]
    simp
/-- where a place of a track goes, if it does -/
def goAll (r : Rc) (n x : Int) : Option Int := match goN r.far (n - x) with
  | some v => some (n - v)
  | none => goN r.near x
def paAll (r : Rc) (n x : Int) : Option Int := match paN r.far (n - x) with
  | some v => some v
  | none => paN r.near x
structure SpotsOK (r : Rc) (n : Int) (G W : List (Key × D)) : Prop where
  g : ∀ x, getK G (.inl x) = (goAll r n x).map .int
  w : ∀ x, getK W (.inl x) = (paAll r n x).map .int
def S_law_spots (fi : FI) : Prop := fi.mask = [false, false] ∧ ∀ (r : Rc) (n : Int), RV r → ∃ G W, fi.sem [lawD r, .int n] = some (.ret true (.lst [.dct G, .dct W]) []) ∧ SpotsOK r n G W
theorem law_spots_ok {cf : Cfg} {F : Nat} : S_law_spots ⟨[false, false], run cf F [false, false] 5 m_law_spots⟩ := by
  refine ⟨rfl, fun r n v => ?_⟩
  suffices h : Rn ((FI.mk [false, false] (run cf F [false, false] 5 m_law_spots)).sem [lawD r, .int n]) (fun o => ∃ G W, o = .ret true (.lst [.dct G, .dct W]) [] ∧ SpotsOK r n G W) by
    obtain ⟨o, h1, G, W, rfl, h2⟩ := h
    exact ⟨G, W, h1, h2⟩
  have hln := v.near.len
  have hlf := v.far.len
  have dist : ∀ {l : List Nt}, VN l → ∀ {done rem : List Nt} {y : Nt}, l = done ++ y :: rem → ∀ z ∈ done, z.p ≠ y.p := by
    intro l vl done rem y e z hz h
    have := vl.asc
    rw [e, List.pairwise_append] at this
    have := this.2.2 z hz y List.mem_cons_self
    omega
  apply fi_rn rfl
  simp -implicitDefEqProofs -dsimp [m_law_spots, law_near]
  refine ev_frM_map (fun rem δ => ∃ done G W x, δ = [some (.dat (lawD r)), some (.dat (.int n)), some (.own (.dct G)), some (.own (.dct W)), x] ∧ r.near = done ++ rem ∧ (∀ x, getK G (.inl x) = (goN done x).map .int) ∧ (∀ x, getK W (.inl x) = (paN done x).map .int) ∧ G.length ≤ done.length ∧ W.length ≤ done.length) (by simp) ⟨[], [], [], none, rfl, rfl, fun x => rfl, fun x => rfl, Nat.le_refl _, Nat.le_refl _⟩ ?_ ?_
  · rintro y rem δ ⟨done, G, W, x, rfl, hd, hG, hW, lG, lW⟩
    have hdl : done.length ≤ 6 := by
      have := congrArg List.length hd
      rw [List.length_append, List.length_cons] at this
      omega
    have hz := dist v.near hd
    refine ⟨_, by simp; rfl, ?_⟩
    cases hg : y.g
    · have e1 : W.length ≤ 16777215 := by omega
      simp -implicitDefEqProofs -dsimp [hg, storeD, e1]
      refine ⟨done ++ [y], G, putKD W (.inl y.p) (.int y.n), ⟨rfl, rfl⟩, by simp [hd], fun x => ?_, fun x => ?_, by simp; omega, by have := put_len (l := W) (k := (.inl y.p : Key)) (v := .int y.n); simp; omega⟩
      · rw [hG, goN_append hz, if_neg (by simp [hg])]
      · rw [getK_put, paN_append hz, hW]
        by_cases h : y.p = x
        · rw [if_pos (by rw [h]), if_pos ⟨hg, h⟩]; rfl
        · rw [if_neg (fun z => h (Sum.inl.inj z)), if_neg (fun z => h z.2)]
    · have e1 : G.length ≤ 16777215 := by omega
      simp -implicitDefEqProofs -dsimp [hg, storeD, e1]
      refine ⟨done ++ [y], putKD G (.inl y.p) (.int y.n), W, ⟨rfl, rfl⟩, by simp [hd], fun x => ?_, fun x => ?_, by have := put_len (l := G) (k := (.inl y.p : Key)) (v := .int y.n); simp; omega, by simp; omega⟩
      · rw [getK_put, goN_append hz, hG]
        by_cases h : y.p = x
        · rw [if_pos (by rw [h]), if_pos ⟨hg, h⟩]; rfl
        · rw [if_neg (fun z => h (Sum.inl.inj z)), if_neg (fun z => h z.2)]
      · rw [hW, paN_append hz, if_neg (by simp [hg])]
  · rintro δ ⟨done, G, W, x, rfl, hd, hG, hW, lG, lW⟩
    rw [List.append_nil] at hd
    subst hd
    simp -implicitDefEqProofs -dsimp [law_far]
    refine ev_frM_map (fun rem δ => ∃ done G W x, δ = [some (.dat (lawD r)), some (.dat (.int n)), some (.own (.dct G)), some (.own (.dct W)), x] ∧ r.far = done ++ rem ∧ (∀ x, getK G (.inl x) = (match goN done (n - x) with | some v => some (n - v) | none => goN r.near x).map .int) ∧ (∀ x, getK W (.inl x) = (match paN done (n - x) with | some v => some v | none => paN r.near x).map .int) ∧ G.length ≤ r.near.length + done.length ∧ W.length ≤ r.near.length + done.length) (by simp) ⟨[], G, W, x, rfl, rfl, hG, hW, lG, lW⟩ ?_ ?_
    · rintro y rem δ ⟨done, G, W, x, rfl, hd, hG, hW, lG, lW⟩
      have hdl : done.length ≤ 6 := by
        have := congrArg List.length hd
        rw [List.length_append, List.length_cons] at this
        omega
      have hz := dist v.far hd
      refine ⟨_, by simp; rfl, ?_⟩
      cases hg : y.g
      · have e1 : W.length ≤ 16777215 := by omega
        simp -implicitDefEqProofs -dsimp [hg, storeD, e1]
        refine ⟨done ++ [y], G, putKD W (.inl (n - y.p)) (.int y.n), ⟨rfl, rfl⟩, by simp [hd], fun x => ?_, fun x => ?_, by simp; omega, by have := put_len (l := W) (k := (.inl (n - y.p) : Key)) (v := .int y.n); simp; omega⟩
        · rw [hG, goN_append hz, if_neg (by simp [hg])]
        · rw [getK_put, paN_append hz, hW]
          by_cases h : y.p = n - x
          · rw [if_pos (by congr 1; omega), if_pos ⟨hg, h⟩]; rfl
          · rw [if_neg (fun z => h (by have := Sum.inl.inj z; omega)), if_neg (fun z => h z.2)]
      · have e1 : G.length ≤ 16777215 := by omega
        simp -implicitDefEqProofs -dsimp [hg, storeD, e1]
        refine ⟨done ++ [y], putKD G (.inl (n - y.p)) (.int (n - y.n)), W, ⟨rfl, rfl⟩, by simp [hd], fun x => ?_, fun x => ?_, by have := put_len (l := G) (k := (.inl (n - y.p) : Key)) (v := .int (n - y.n)); simp; omega, by simp; omega⟩
        · rw [getK_put, goN_append hz, hG]
          by_cases h : y.p = n - x
          · rw [if_pos (by congr 1; omega), if_pos ⟨hg, h⟩]; rfl
          · rw [if_neg (fun z => h (by have := Sum.inl.inj z; omega)), if_neg (fun z => h z.2)]
        · rw [hW, paN_append hz, if_neg (by simp [hg])]
    · rintro δ ⟨done, G, W, x, rfl, hd, hG, hW, lG, lW⟩
      rw [List.append_nil] at hd
      subst hd
      simp -implicitDefEqProofs -dsimp
      exact ⟨G, W, ⟨rfl, rfl⟩, ⟨hG, hW⟩⟩
end Rl

set_option Elab.async false
set_option linter.all false
set_option maxRecDepth 100000
set_option maxHeartbeats 4000000
/-! Pl N: owned things that are given up. -/
namespace Rl
open PySem L2
def frz1 (δ : Env) : R → Env
  | .bor i => (match δ[i]? with | some (some (.own d)) => δ.set i (some (.dat d)) | _ => δ)
  | _ => δ
theorem frz1_bor {δ : Env} {i : Nat} : frz1 δ (.bor i) = (match (motive := Option (Option B) → Env) δ[i]? with | some (some (.own d)) => δ.set i (some (.dat d)) | _ => δ) := rfl
def frz (δ : Env) : List R → Env
  | [] => δ
  | r :: rs => frz (frz1 δ r) rs
@[simp] theorem frz_nil {δ : Env} : frz δ [] = δ := rfl
@[simp] theorem frz_dat {δ : Env} {d : D} {rs : List R} : frz δ (.dat d :: rs) = frz δ rs := rfl
@[simp] theorem frz_own {δ : Env} {d : D} {rs : List R} : frz δ (.own d :: rs) = frz δ rs := rfl
@[simp] theorem frz_bor {δ : Env} {i : Nat} {rs : List R} : frz δ (.bor i :: rs) = frz (match (motive := Option (Option B) → Env) δ[i]? with | some (some (.own d)) => δ.set i (some (.dat d)) | _ => δ) rs := rfl
section
variable {δ : Env} {X : XX}
theorem get_lt {α : Type} {l : List α} {i : Nat} {a : α} (h : l[i]? = some a) : i < l.length := (List.getElem?_eq_some_iff.mp h).1
theorem vw_frz1 {r s : R} : vw (frz1 δ r) s = vw δ s := by
  cases r with
  | dat d => rfl
  | own d => rfl
  | bor i =>
    rw [frz1_bor]
    split
    · rename_i d h
      cases s with
      | dat d => rfl
      | own d => rfl
      | bor j =>
        rw [vw_bor, vw_bor]
        by_cases e : i = j
        · subst e
          rw [List.getElem?_set_self (get_lt h), h]
        · rw [List.getElem?_set_ne e]
    · rfl
theorem vws_frz1 {r : R} : ∀ {rs : List R}, vws (frz1 δ r) rs = vws δ rs
  | [] => rfl
  | s :: rs => by rw [vws_cons, vws_cons, vw_frz1, vws_frz1]
theorem give_vw {r : R} {d : D} {Q : D → Env → Prop} (h : vw δ r = some d) (q : Q d (frz1 δ r)) : Ev (give r) δ Q X := by
  cases r with
  | dat d' => cases (Option.some.inj h); exact q
  | own d' => cases (Option.some.inj h); exact q
  | bor i =>
    rw [vw_bor] at h
    rw [ev_give_bor]
    rw [frz1_bor] at q
    rcases e : δ[i]? with _ | _ | d' | d'
    · rw [e] at h; cases h
    · rw [e] at h; cases h
    · rw [e] at h q; cases (Option.some.inj h); exact q
    · rw [e] at h q; cases (Option.some.inj h); exact q
theorem giveAt_vws : ∀ {rs : List R} {δ : Env} {ds : List D} {Q : List R → Env → Prop}, vws δ rs = some ds → Q (ds.map .dat) (frz δ rs) → Ev (giveAt (List.replicate rs.length false) rs) δ Q X
  | [], δ, ds, Q, h, q => by cases (Option.some.inj h); exact q
  | r :: rs, δ, ds, Q, h, q => by
    rw [vws_cons] at h
    rcases e1 : vw δ r with _ | d
    · rw [e1] at h; cases h
    · rcases e2 : vws δ rs with _ | ds'
      · rw [e1, e2] at h; cases h
      · rw [e1, e2] at h
        cases (Option.some.inj h)
        rw [List.length_cons, List.replicate_succ, ev_giveAt_f]
        refine give_vw e1 ?_
        exact giveAt_vws (by rw [vws_frz1]; exact e2) q
/-- a call that changes nothing and hands back something that is no flat thing: owned things are given up -/
theorem ev_call_frz {fi : FI} {rs : List R} {Q : R → Env → Prop} {ds : List D} {w : Bool} {d : D} (hm : fi.mask = List.replicate rs.length false) (hv : vws δ rs = some ds) (hs : fi.sem ds = some (.ret w d [])) (hf : flatD d = false) (q : Q (if w then .own d else .dat d) (frz δ rs)) : Ev (callR fi rs) δ Q X := by
  have hlen : ∀ {rs : List R} {ds : List D}, vws δ rs = some ds → ds.length = rs.length := by
    intro rs
    induction rs with
    | nil => intro ds h; cases (Option.some.inj h); rfl
    | cons r rs ih =>
      intro ds h
      rw [vws_cons] at h
      rcases e1 : vw δ r with _ | d
      · rw [e1] at h; cases h
      · rcases e2 : vws δ rs with _ | ds'
        · rw [e1, e2] at h; cases h
        · rw [e1, e2] at h
          cases (Option.some.inj h)
          rw [List.length_cons, List.length_cons, ih e2]
  have hi : ∀ (ds : List D) (δ : Env), ins δ (List.replicate ds.length false) (ds.map .dat) = some ds := by
    intro ds δ
    induction ds with
    | nil => rfl
    | cons d r ih =>
      rw [List.length_cons, List.replicate_succ, List.map_cons]
      show (ins δ (List.replicate r.length false) (r.map .dat)).map (d :: ·) = _
      rw [ih]
      rfl
  have hsl : ∀ ds : List D, slotsAt (List.replicate ds.length false) (ds.map .dat) = [] := by
    intro ds
    induction ds with
    | nil => rfl
    | cons d r ih =>
      rw [List.length_cons, List.replicate_succ, List.map_cons]
      exact ih
  refine ev_call (P := fun _ => True) ?_ ?_
  · unfold callPure
    rw [hv, hm]
    simp [hs, hf]
  · rw [hm]
    refine giveAt_vws hv ?_
    rw [← hlen hv, hi, oK_some, hsl]
    exact ⟨List.nodup_nil, _, hs, q⟩
theorem back_wiped {vs : List Nat} {δ δ1 : Env} : backD δ δ1 vs = backD δ (wipeD δ1 vs) vs := by
  apply List.ext_getElem?
  intro i
  rw [back_get, back_get, wipe_len, wipe_get]
  by_cases h : i ∈ vs ∧ i < δ1.length
  · rw [if_pos h, if_pos h]
  · rw [if_neg h, if_neg h, if_neg h]
@[simp] theorem back_nil {δ δ1 : Env} : backD δ δ1 [] = δ1 := rfl
@[simp] theorem back_cons {δ δ1 : Env} {i : Nat} {r : List Nat} : backD δ δ1 (i :: r) = (backD δ δ1 r).set i (δ.getD i none) := rfl
/-- a comprehension whose turns may change what stands outside -/
theorem ev_comp_inv {α τ : Type} {turn : D → M (Option α)} {vs : List Nat} {f : τ → D} {xs : List τ} {Q : List α → Env → Prop} (J : Env → Prop) (g : τ → Option α) (ho : vs.any (ownAt δ) = false) (h0 : J (wipeD δ vs))
    (h : ∀ x ∈ xs, ∀ δ, J δ → Ev (turn (f x)) δ (fun o δ' => o = g x ∧ J (wipeD δ' vs)) nox) (q : ∀ δw, J δw → Q (xs.filterMap g) (backD δ δw vs)) : Ev (comp turn vs (xs.map f)) δ Q X := by
  have key : ∀ {xs : List τ} {δ : Env} {acc : List α}, J (wipeD δ vs) → (∀ x ∈ xs, ∀ δ, J δ → Ev (turn (f x)) δ (fun o δ' => o = g x ∧ J (wipeD δ' vs)) nox) → ∃ δ', compLoop turn vs (xs.map f) δ acc = some (acc ++ xs.filterMap g, δ') ∧ J (wipeD δ' vs) := by
    intro xs
    induction xs with
    | nil => intro δ acc hj _; exact ⟨δ, by simp [compLoop], hj⟩
    | cons x r ih =>
      intro δ acc hj h
      have h1 := h x List.mem_cons_self _ hj
      unfold Ev at h1
      split at h1
      · rename_i o δ1 e
        obtain ⟨h2, h3⟩ := h1
        rw [List.map_cons]
        unfold compLoop
        rw [e]
        have ih := fun acc => ih (δ := δ1) (acc := acc) h3 (fun d' hd => h d' (List.mem_cons_of_mem _ hd))
        cases o with
        | none =>
          dsimp only [noEx]
          obtain ⟨δ', q1, q2⟩ := ih acc
          refine ⟨δ', ?_, q2⟩
          rw [q1, List.filterMap_cons, ← h2]
        | some a =>
          dsimp only [noEx]
          obtain ⟨δ', q1, q2⟩ := ih (acc ++ [a])
          refine ⟨δ', ?_, q2⟩
          rw [q1, List.filterMap_cons, ← h2]
          simp
      · exact h1.elim
      · exact h1.elim
  obtain ⟨δ', h1, h2⟩ := key (acc := []) h0 h
  unfold Ev comp
  rw [ho, h1, if_neg Bool.false_ne_true]
  dsimp only
  rw [back_wiped]
  exact q _ h2
end
end Rl

set_option Elab.async false
set_option linter.all false
set_option maxRecDepth 100000
set_option maxHeartbeats 4000000
/-! Pl M: the law's own look, run. -/
namespace Rl
open PySem L2
/-- a throw on a track of length n: the place and how long is waited there -/
def nextP (r : Rc) (n p k : Int) : Int × Int :=
  if n < p + k then
    match r.rule with
    | .stay => (p, 0)
    | .done => ((goAll r n n).getD n, (paAll r n ((goAll r n n).getD n)).getD 0)
    | .bounce => ((goAll r n (n + n - (p + k))).getD (n + n - (p + k)), (paAll r n ((goAll r n (n + n - (p + k))).getD (n + n - (p + k)))).getD 0)
  else ((goAll r n (p + k)).getD (p + k), (paAll r n ((goAll r n (p + k)).getD (p + k))).getD 0)
theorem get_all {G : List (Key × D)} {f : Int → Option Int} (h : ∀ x, getK G (.inl x) = (f x).map .int) {i j : Int} : (getK G (.inl i)).getD (.int j) = .int ((f i).getD j) := by
  rw [h]
  cases f i <;> rfl
def S_law_next (fi : FI) : Prop := fi.mask = [false, false, false, false, false] ∧ ∀ (r : Rc) (n : Int) (G W : List (Key × D)) (p k : Int), SpotsOK r n G W → fi.sem [lawD r, .int n, .lst [.dct G, .dct W], .int p, .int k] = some (.ret true (.lst [.int (nextP r n p k).1, .int (nextP r n p k).2]) [])
theorem law_next_ok {cf : Cfg} {F : Nat} : S_law_next ⟨[false, false, false, false, false], run cf F [false, false, false, false, false] 6 m_law_next⟩ := by
  refine ⟨rfl, fun r n G W p k S => ?_⟩
  apply fi_eq rfl
  by_cases h : n < p + k
  · cases hr : r.rule
    · simp -implicitDefEqProofs -dsimp [m_law_next, h, law_rule, hr, Rul.s, get_all S.g, get_all S.w]
      simp [nextP, h, hr]
    · simp -implicitDefEqProofs -dsimp [m_law_next, h, law_rule, hr, Rul.s, get_all S.g, get_all S.w]
      simp [nextP, h, hr]
    · simp -implicitDefEqProofs -dsimp [m_law_next, h, law_rule, hr, Rul.s]
      simp [nextP, h, hr]
  · simp -implicitDefEqProofs -dsimp [m_law_next, h, get_all S.g, get_all S.w]
    simp [nextP, h]
theorem enumI_range : ∀ (l : List Int) (n : Nat), enumI l n = (List.range l.length).map (fun k => (n + k, l.getD k 0))
  | [], _ => rfl
  | a :: l, n => by
    rw [List.length_cons, List.range_succ_eq_map, List.map_cons, List.map_map]
    show (n, a) :: enumI l (n + 1) = _
    rw [enumI_range l (n + 1)]
    congr 1
    apply List.map_congr_left
    intro k _
    simp only [Function.comp, List.getD_cons_succ]
    congr 1
    omega
theorem faces_range (die : List Int) : faces die = ((List.range die.length).filter (fun k => decide (0 < die.getD k 0))).map (fun k : Nat => (k : Int) + 1) := by
  unfold faces
  rw [enumI_range, List.filter_map, List.map_map]
  congr 1
  · funext k
    simp
def S_law_faces (fi : FI) : Prop := fi.mask = [false] ∧ ∀ r : Rc, r.die.length ≤ 6 → fi.sem [lawD r] = some (.ret true (.lst (intL (faces r.die))) [])
theorem law_faces_ok {cf : Cfg} {F : Nat} : S_law_faces ⟨[false], run cf F [false] 2 m_law_faces⟩ := by
  refine ⟨rfl, fun r hl => ?_⟩
  apply fi_eq rfl
  have r1 : rngOk (r.die.length : Int) = true := by unfold rngOk; rw [decide_eq_true (by omega), decide_eq_true (by omega)]; rfl
  have hfl := faces_len r.die
  rw [faces_range] at hfl
  simp -implicitDefEqProofs -dsimp [m_law_faces, law_die, r1, range0]
  refine ev_lc_filter (fun k : Nat => decide (0 < r.die.getD k 0)) (fun k : Nat => .int ((k : Int) + 1)) (by simp) (fun k hk => ?_) ?_
  · have hk2 := List.mem_range.mp hk
    have e : idxD (dieD r.die) (.int (k : Int)) = some (.int (r.die.getD k 0)) := by
      unfold dieD
      rw [idx_tup]
      unfold atI ixN
      rw [if_pos (by omega), if_pos (by rw [List.length_map]; omega)]
      show (List.map D.int r.die)[(k : Int).toNat]? = _
      rw [Int.toNat_natCast, List.getElem?_map, List.getElem?_eq_getElem hk2, List.getD_eq_getElem?_getD, List.getElem?_eq_getElem hk2]
      rfl
    simp -implicitDefEqProofs -dsimp [ev_lcTurn, law_die, e]
  · simp -implicitDefEqProofs -dsimp
    rw [List.length_map] at hfl
    simp only [List.getD_eq_getElem?_getD] at hfl
    refine ⟨by omega, ?_⟩
    rw [faces_range]
    unfold intL
    rw [List.map_map]
    simp only [List.getD_eq_getElem?_getD]
    rfl
/-! ### sweeping -/
def nxT (r : Rc) (n p : Int) : List Int := (faces r.die).map (fun k => (nextP r n p k).1)
def stepG (nx : Int → List Int) (S : List Int) (p : Int) : List Int := if (nx p).any (fun q => decide (q ∈ S)) then (if p ∈ S then S else S ++ [p]) else S
def range' (n : Int) : List Int := (List.range n.toNat).map (fun k : Nat => (k : Int))
def sweepG (nx : Int → List Int) (n : Int) (S : List Int) : List Int := (range' n).foldl (stepG nx) S
def goodG (nx : Int → List Int) (n : Int) : Nat → List Int
  | 0 => [n]
  | k + 1 => sweepG nx n (goodG nx n k)
theorem getK_seen_map {S : List Int} {x : Int} : getK (seenD S) (.inl x) = if x ∈ S then some (.bl true) else none := by
  by_cases h : x ∈ S
  · rw [if_pos h, getK_in h]
  · rw [if_neg h, getK_out h]
theorem stepG_len {nx : Int → List Int} {S : List Int} {p : Int} : (stepG nx S p).length ≤ S.length + 1 := by
  unfold stepG
  split
  · split <;> simp
  · omega
theorem foldG_len {nx : Int → List Int} : ∀ {l S : List Int}, (l.foldl (stepG nx) S).length ≤ S.length + l.length
  | [], S => Nat.le_refl _
  | a :: l, S => by
    rw [List.foldl_cons, List.length_cons]
    have h1 := foldG_len (nx := nx) (l := l) (S := stepG nx S a)
    have h2 := stepG_len (nx := nx) (S := S) (p := a)
    omega
theorem goodG_len {nx : Int → List Int} {n : Int} : ∀ {k : Nat}, (goodG nx n k).length ≤ 1 + k * n.toNat
  | 0 => by simp [goodG]
  | k + 1 => by
    have h1 := foldG_len (nx := nx) (l := range' n) (S := goodG nx n k)
    have h2 := goodG_len (nx := nx) (n := n) (k := k)
    have h3 : (range' n).length = n.toNat := by unfold range'; simp
    rw [h3] at h1
    show (sweepG nx n (goodG nx n k)).length ≤ _
    unfold sweepG
    rw [Nat.succ_mul]
    omega
def lawGood (r : Rc) (n : Int) : List Int := goodG (nxT r n) n n.toNat
def lawEndsB (r : Rc) (n : Int) : Bool := ((range' n).filter (fun p => !decide (p ∈ lawGood r n) && (goAll r n p).isNone)).length == 0
def S_law_ends (fi : FI) : Prop := fi.mask = [false] ∧ ∀ r : Rc, RV r → fi.sem [lawD r] = some (.ret false (.bl (lawEndsB r (leastL r))) [])
/-- an owned thing, or given up by now -/
def OD (d : D) (x : B) : Prop := x = .own d ∨ x = .dat d
theorem od_own {d : D} : OD d (.own d) := .inl rfl
theorem od_dat {d : D} : OD d (.dat d) := .inr rfl
/-- a slot that owns nothing -/
def NO (x : Option B) : Prop := ∀ d, x ≠ some (.own d)
theorem no_none : NO none := fun _ h => by cases h
theorem no_dat {d : D} : NO (some (.dat d)) := fun _ h => by cases h
theorem NO.ok {x : Option B} (h : NO x) : (match (motive := Option (Option B) → Bool) some x with | some (some (.own _)) => true | _ => false) = false := by
  rcases x with _ | d | d
  · rfl
  · rfl
  · exact absurd rfl (h d)
theorem range_pre {n : Int} : ∀ {done rem : List Int}, range' n = done ++ rem → True := fun _ => trivial
theorem law_ends_ok {cf : Cfg} {F : Nat} (h1 : Kn cf "_law_least" S_law_least) (h2 : Kn cf "_law_spots" S_law_spots) (h3 : Kn cf "_law_faces" S_law_faces) (h4 : Kn cf "_law_next" S_law_next) : S_law_ends ⟨[false], run cf F [false] 9 m_law_ends⟩ := by
  obtain ⟨f1, g1, m1, s1⟩ := h1
  obtain ⟨f2, g2, m2, s2⟩ := h2
  obtain ⟨f3, g3, m3, s3⟩ := h3
  obtain ⟨f4, g4, m4, s4⟩ := h4
  refine ⟨rfl, fun r v => ?_⟩
  have hn0 : 0 ≤ leastL r := by have := most_nonneg r.near; have := most_nonneg r.far; unfold leastL; omega
  have hn1 : leastL r ≤ 18 := by have := most_le v.near; have := most_le v.far; have := v.d6; unfold leastL; omega
  obtain ⟨G, W, b1, S⟩ := s2 r (leastL r) v
  have rn : rngOk (leastL r) = true := by unfold rngOk; rw [decide_eq_true (by omega), decide_eq_true (by omega)]; rfl
  have hfl : (faces r.die).length ≤ 6 := Nat.le_trans (faces_len r.die) v.d6
  apply fi_eq rfl
  simp -implicitDefEqProofs -dsimp [m_law_ends, g1]
  refine ev_call_flat (ds := [lawD r]) (by simp [m1]) (by simp) (s1 r v) rfl ?_
  simp -implicitDefEqProofs -dsimp [g2]
  refine ev_call_dat (ds := [lawD r, .int (leastL r)]) (by simp [m2]) b1 rfl ?_
  simp -implicitDefEqProofs -dsimp [putKD, rn, range0]
  generalize hn : leastL r = n at *
  rw [show [((Sum.inl n : Key), D.bl true)] = seenD [n] from rfl]
  refine ev_frM_map (fun rem δ => ∃ k x2 x4 x5 x6, OD (.lst [.dct G, .dct W]) x2 ∧ NO x5 ∧ δ = [some (.dat (lawD r)), some (.dat (.int n)), some x2, some (.own (.dct (seenD (goodG (nxT r n) n k)))), x4, x5, x6, none, none] ∧ k + rem.length = n.toNat) (by simp) ⟨0, _, none, none, none, od_own, no_none, rfl, by simp⟩ ?_ ?_
  · rintro j rem δ ⟨k, x2, x4, x5, x6, hx2, hx5, rfl, hk⟩
    rw [List.length_cons] at hk
    refine ⟨_, by simp; rfl, ?_⟩
    simp -implicitDefEqProofs -dsimp [rn, range0]
    have hglen := goodG_len (nx := nxT r n) (n := n) (k := k)
    have hkn : k * n.toNat ≤ 18 * 18 := Nat.mul_le_mul (by omega) (by omega)
    refine ev_frM_map (fun rem δ => ∃ S x2 x5 x6, OD (.lst [.dct G, .dct W]) x2 ∧ NO x5 ∧ δ = [some (.dat (lawD r)), some (.dat (.int n)), some x2, some (.own (.dct (seenD S))), some (.dat (.int j)), x5, x6, none, none] ∧ (rem.map (fun k : Nat => (k : Int))).foldl (stepG (nxT r n)) S = goodG (nxT r n) n (k + 1) ∧ S.length + rem.length ≤ 1000) (by simp) ⟨goodG (nxT r n) n k, x2, x5, x6, hx2, hx5, rfl, rfl, ?_⟩ ?_ ?_
    · rw [List.length_range]; omega
    · rintro p rem2 δ ⟨S', y2, y5, y6, hy2, hy5, rfl, hf, hl⟩
      rw [List.length_cons] at hl
      rw [List.map_cons, List.foldl_cons] at hf
      refine ⟨_, by simp; rfl, ?_⟩
      simp -implicitDefEqProofs -dsimp [g3]
      refine ev_call_dat (ds := [lawD r]) (by simp [m3]) (s3 r v.d6) rfl ?_
      simp -implicitDefEqProofs -dsimp
      unfold intL
      refine ev_comp_inv (fun δ => ∃ y2, OD (.lst [.dct G, .dct W]) y2 ∧ δ = [some (.dat (lawD r)), some (.dat (.int n)), some y2, some (.own (.dct (seenD S'))), some (.dat (.int j)), some (.dat (.int p)), y6, none, none]) (fun k => some (.int (nextP r n p k).1)) (by simp) ⟨y2, hy2, by simp⟩ ?_ ?_
      · rintro q hq δ ⟨z2, hz2, rfl⟩
        rcases hz2 with rfl | rfl
        · simp -implicitDefEqProofs -dsimp [ev_lcTurn, g4]
          refine ev_call_frz (ds := [lawD r, .int n, .lst [.dct G, .dct W], .int p, .int q]) (by simp [m4]) (by simp) (s4 r n G W p q S) rfl ?_
          simp -implicitDefEqProofs -dsimp [od_own, od_dat]
        · simp -implicitDefEqProofs -dsimp [ev_lcTurn, g4]
          refine ev_call_frz (ds := [lawD r, .int n, .lst [.dct G, .dct W], .int p, .int q]) (by simp [m4]) (by simp) (s4 r n G W p q S) rfl ?_
          simp -implicitDefEqProofs -dsimp [od_own, od_dat]
      · rintro δ ⟨z2, hz2, rfl⟩
        rw [filterMap_some]
        have e1 : (faces r.die).map (fun k => D.int (nextP r n p k).1) = (nxT r n p).map D.int := by
          unfold nxT
          rw [List.map_map]
          rfl
        have hnl : (nxT r n p).length ≤ 6 := by unfold nxT; rw [List.length_map]; exact hfl
        have hn2 : (nxT r n p).length ≤ 16777216 := by omega
        rw [e1]
        simp -implicitDefEqProofs -dsimp [hn2]
        refine ev_lc_filter (fun q => decide (q ∈ S')) D.int (by simp) (fun q hq => ?_) ?_
        · by_cases h : q ∈ S'
          · simp -implicitDefEqProofs -dsimp [ev_lcTurn, getK_in h, h]
          · simp -implicitDefEqProofs -dsimp [ev_lcTurn, getK_out h, h]
        · have hfl2 : ((nxT r n p).filter (fun q => decide (q ∈ S'))).length ≤ 16777216 := Nat.le_trans (List.length_filter_le _ _) hn2
          simp -implicitDefEqProofs -dsimp [hfl2]
          by_cases h : ∃ x, x ∈ nxT r n p ∧ x ∈ S'
          · have h1 : (seenD S').length = S'.length := by unfold seenD; simp
            have h2 : S'.length ≤ 16777215 := by omega
            have hany : (nxT r n p).any (fun q => decide (q ∈ S')) = true := by
              rw [List.any_eq_true]
              obtain ⟨x, a, b⟩ := h
              exact ⟨x, a, decide_eq_true b⟩
            by_cases hp : (p : Int) ∈ S'
            · have hst : stepG (nxT r n) S' p = S' := by unfold stepG; rw [if_pos hany, if_pos hp]
              rw [hst] at hf
              simp -implicitDefEqProofs -dsimp [h, storeD, h1, h2, put_seen2 hp]
              exact ⟨S', z2, hz2, _, no_dat, ⟨rfl, rfl, rfl⟩, hf, by omega⟩
            · have hst : stepG (nxT r n) S' p = S' ++ [(p : Int)] := by unfold stepG; rw [if_pos hany, if_neg hp]
              rw [hst] at hf
              simp -implicitDefEqProofs -dsimp [h, storeD, h1, h2, put_seen hp]
              exact ⟨S' ++ [(p : Int)], z2, hz2, _, no_dat, ⟨rfl, rfl, rfl⟩, hf, by rw [List.length_append, List.length_singleton]; omega⟩
          · have hany : ¬ (nxT r n p).any (fun q => decide (q ∈ S')) = true := by
              rw [List.any_eq_true]
              rintro ⟨x, a, b⟩
              exact h ⟨x, a, of_decide_eq_true b⟩
            have hst : stepG (nxT r n) S' p = S' := by unfold stepG; rw [if_neg hany]
            rw [hst] at hf
            simp -implicitDefEqProofs -dsimp [h]
            exact ⟨S', z2, hz2, _, no_dat, ⟨rfl, rfl, rfl⟩, hf, by omega⟩
    · rintro δ ⟨S', y2, y5, y6, hy2, hy5, rfl, hf, hl⟩
      simp only [List.map_nil, List.foldl_nil] at hf
      subst hf
      exact ⟨k + 1, y2, _, y5, y6, hy2, hy5, rfl, by omega⟩
  · rintro δ ⟨k, x2, x4, x5, x6, hx2, hx5, rfl, hk⟩
    rw [List.length_nil, Nat.add_zero] at hk
    subst hk
    have hgG : ∀ x, getK G (.inl x) = (goAll r n x).map .int := S.g
    have hlen : (List.filter (fun p : Nat => !decide ((p : Int) ∈ lawGood r n) && (goAll r n p).isNone) (List.range n.toNat)).length = ((range' n).filter (fun p => !decide (p ∈ lawGood r n) && (goAll r n p).isNone)).length := by
      unfold range'
      rw [List.filter_map, List.length_map]
      rfl
    have hb1 : (List.filter (fun p : Nat => !decide ((p : Int) ∈ lawGood r n) && (goAll r n p).isNone) (List.range n.toNat)).length ≤ 16777216 := by
      refine Nat.le_trans (List.length_filter_le _ _) ?_
      rw [List.length_range]
      omega
    have fin : ((((List.filter (fun p : Nat => !decide ((p : Int) ∈ lawGood r n) && (goAll r n p).isNone) (List.range n.toNat)).length : Nat) : Int) = 0) = (lawEndsB r n = true) := by
      unfold lawEndsB
      rw [hlen]
      simp
    rcases hx2 with rfl | rfl
    all_goals
      simp -implicitDefEqProofs -dsimp [rn, range0]
      refine ev_lc_filter (fun p : Nat => !decide ((p : Int) ∈ lawGood r n) && (goAll r n p).isNone) (fun p : Nat => .int (p : Int)) (by rcases x5 with _ | d | d <;> first | (exact absurd rfl (hx5 d)) | simp) (fun q hq => ?_) ?_
      · by_cases h1 : (q : Int) ∈ lawGood r n
        · simp -implicitDefEqProofs -dsimp [ev_lcTurn, getK_in (show (q : Int) ∈ goodG (nxT r n) n n.toNat from h1), h1]
        · cases h2 : goAll r n q
          · simp -implicitDefEqProofs -dsimp [ev_lcTurn, getK_out (show (q : Int) ∉ goodG (nxT r n) n n.toNat from h1), h1, hgG, h2]
          · simp -implicitDefEqProofs -dsimp [ev_lcTurn, getK_out (show (q : Int) ∉ goodG (nxT r n) n n.toNat from h1), h1, hgG, h2]
      · rw [if_pos (by rw [List.length_map]; exact szOk_of hb1)]
        simp -implicitDefEqProofs -dsimp
        rw [Bool.eq_iff_iff, decide_eq_true_iff, fin]
end Rl

set_option Elab.async false
set_option linter.all false
set_option maxRecDepth 100000
set_option maxHeartbeats 4000000
/-! Pl O: both looks are one. -/
namespace Rl
open PySem L2
theorem Reach.head {nx : Int → List Int} {a b c : Int} (h : b ∈ nx a) (r : Reach nx b c) : Reach nx a c := by
  induction r with
  | refl => exact .step (.refl a) h
  | step _ h2 ih => exact .step ih h2
theorem Reach.trans {nx : Int → List Int} {a b c : Int} (h : Reach nx a b) (r : Reach nx b c) : Reach nx a c := by
  induction r with
  | refl => exact h
  | step _ h2 ih => exact .step ih h2
/-! ### sweeping finds what reaches the end -/
section
variable {nx : Int → List Int} {n : Int}
def nxR (nx : Int → List Int) (n p : Int) : List Int := if n ≤ p then [] else nx p
theorem mem_range' {n x : Int} : x ∈ range' n ↔ 0 ≤ x ∧ x < n := by
  unfold range'
  rw [List.mem_map]
  constructor
  · rintro ⟨k, hk, rfl⟩
    have := List.mem_range.mp hk
    omega
  · intro h
    exact ⟨x.toNat, List.mem_range.mpr (by omega), by omega⟩
theorem stepG_sub {S : List Int} {p x : Int} (h : x ∈ S) : x ∈ stepG nx S p := by
  unfold stepG
  split
  · split
    · exact h
    · exact List.mem_append_left _ h
  · exact h
theorem foldG_sub {x : Int} : ∀ {l S : List Int}, x ∈ S → x ∈ l.foldl (stepG nx) S
  | [], _, h => h
  | a :: l, S, h => foldG_sub (l := l) (stepG_sub h)
theorem stepG_sound {S : List Int} {p : Int} (hp : p < n) (h : ∀ x ∈ S, Reach (nxR nx n) x n) : ∀ x ∈ stepG nx S p, Reach (nxR nx n) x n := by
  intro x hx
  unfold stepG at hx
  split at hx
  · rename_i ha
    split at hx
    · exact h x hx
    · rcases List.mem_append.mp hx with hx | hx
      · exact h x hx
      · rw [List.mem_singleton.mp hx]
        obtain ⟨q, q1, q2⟩ := List.any_eq_true.mp ha
        refine Reach.head ?_ (h q (of_decide_eq_true q2))
        unfold nxR
        rw [if_neg (by omega)]
        exact q1
  · exact h x hx
theorem foldG_sound : ∀ {l S : List Int}, (∀ p ∈ l, p < n) → (∀ x ∈ S, Reach (nxR nx n) x n) → ∀ x ∈ l.foldl (stepG nx) S, Reach (nxR nx n) x n
  | [], _, _, h => h
  | a :: l, S, hl, h => foldG_sound (l := l) (fun p hp => hl p (List.mem_cons_of_mem _ hp)) (stepG_sound (hl a List.mem_cons_self) h)
theorem goodG_sound : ∀ k, ∀ x ∈ goodG nx n k, Reach (nxR nx n) x n
  | 0 => fun x hx => by rw [List.mem_singleton.mp hx]; exact .refl n
  | k + 1 => foldG_sound (fun p hp => (mem_range'.mp hp).2) (goodG_sound k)
/-- nothing more comes in -/
def Cl (nx : Int → List Int) (n : Int) (S : List Int) : Prop := ∀ p, 0 ≤ p → p < n → (∃ q ∈ nx p, q ∈ S) → p ∈ S
theorem stepG_cases {S : List Int} {p : Int} : stepG nx S p = S ∨ ((∃ q ∈ nx p, q ∈ S) ∧ p ∉ S ∧ stepG nx S p = S ++ [p]) := by
  unfold stepG
  split
  · rename_i ha
    obtain ⟨q, q1, q2⟩ := List.any_eq_true.mp ha
    split
    · exact .inl rfl
    · rename_i hp
      exact .inr ⟨⟨q, q1, of_decide_eq_true q2⟩, hp, rfl⟩
  · exact .inl rfl
theorem cnt_step {U S : List Int} {p : Int} (hp : p ∈ U) : cnt U (stepG nx S p) ≤ cnt U S ∧ (stepG nx S p = S ∨ cnt U (stepG nx S p) < cnt U S) := by
  rcases stepG_cases (nx := nx) (S := S) (p := p) with h | ⟨_, h2, h3⟩
  · rw [h]; exact ⟨Nat.le_refl _, .inl rfl⟩
  · rw [h3]
    have := cnt_add hp h2
    exact ⟨by omega, .inr (by omega)⟩
theorem cnt_fold {U : List Int} : ∀ {l S : List Int}, (∀ p ∈ l, p ∈ U) → cnt U (l.foldl (stepG nx) S) ≤ cnt U S ∧ ((∀ p ∈ l, stepG nx S p = S) ∧ l.foldl (stepG nx) S = S ∨ cnt U (l.foldl (stepG nx) S) < cnt U S)
  | [], S, _ => ⟨Nat.le_refl _, .inl ⟨fun _ h => (by cases h), rfl⟩⟩
  | a :: l, S, hl => by
    have h1 := cnt_step (nx := nx) (S := S) (hl a List.mem_cons_self)
    have h2 := cnt_fold (l := l) (S := stepG nx S a) fun p hp => hl p (List.mem_cons_of_mem _ hp)
    rw [List.foldl_cons]
    refine ⟨by omega, ?_⟩
    rcases h1.2 with e | e
    · rw [e] at h2 ⊢
      rcases h2.2 with ⟨f1, f2⟩ | f
      · refine .inl ⟨fun p hp => ?_, f2⟩
        rcases List.mem_cons.mp hp with rfl | hp
        · exact e
        · exact f1 p hp
      · exact .inr f
    · exact .inr (by omega)
theorem cl_of_fix {S : List Int} (h : ∀ p ∈ range' n, stepG nx S p = S) : Cl nx n S := by
  intro p p0 p1 ⟨q, q1, q2⟩
  have := h p (mem_range'.mpr ⟨p0, p1⟩)
  unfold stepG at this
  rw [if_pos (List.any_eq_true.mpr ⟨q, q1, decide_eq_true q2⟩)] at this
  split at this
  · rename_i h; exact h
  · have := congrArg List.length this
    simp at this
theorem fix_of_cl {S : List Int} (h : Cl nx n S) : ∀ p ∈ range' n, stepG nx S p = S := by
  intro p hp
  rcases stepG_cases (nx := nx) (S := S) (p := p) with e | ⟨e1, e2, _⟩
  · exact e
  · exact absurd (h p (mem_range'.mp hp).1 (mem_range'.mp hp).2 e1) e2
theorem foldG_fix : ∀ {l S : List Int}, (∀ p ∈ l, stepG nx S p = S) → l.foldl (stepG nx) S = S
  | [], _, _ => rfl
  | a :: l, S, h => by
    rw [List.foldl_cons, h a List.mem_cons_self]
    exact foldG_fix fun p hp => h p (List.mem_cons_of_mem _ hp)
theorem goodG_cl (k : Nat) : Cl nx n (goodG nx n k) ∨ cnt (range' n) (goodG nx n k) + k ≤ n.toNat := by
  induction k with
  | zero =>
    right
    have h1 : cnt (range' n) (goodG nx n 0) ≤ (range' n).length := cnt_le
    have h2 : (range' n).length = n.toNat := by unfold range'; simp
    omega
  | succ k ih =>
    have e : goodG nx n (k + 1) = (range' n).foldl (stepG nx) (goodG nx n k) := rfl
    rcases ih with h | h
    · left
      rw [e, foldG_fix (fix_of_cl h)]
      exact h
    · have := cnt_fold (nx := nx) (U := range' n) (l := range' n) (S := goodG nx n k) fun p hp => hp
      rw [← e] at this
      rcases this.2 with ⟨f1, f2⟩ | f
      · left
        rw [f2]
        exact cl_of_fix f1
      · right; omega
theorem good_cl : Cl nx n (goodG nx n n.toNat) := by
  rcases goodG_cl (nx := nx) (n := n) n.toNat with h | h
  · exact h
  · intro p p0 p1 _
    have h0 : cnt (range' n) (goodG nx n n.toNat) = 0 := by omega
    unfold cnt at h0
    have h1 := List.length_eq_zero_iff.mp h0
    rw [List.filter_eq_nil_iff] at h1
    have := h1 p (mem_range'.mpr ⟨p0, p1⟩)
    simpa using this
theorem goodG_end (k : Nat) : n ∈ goodG nx n k := by
  induction k with
  | zero => simp [goodG]
  | succ k ih => exact foldG_sub ih
theorem good_iff (hr : ∀ p, 0 ≤ p → p < n → ∀ q ∈ nx p, 0 ≤ q) {x : Int} (h0 : 0 ≤ x) : x ∈ goodG nx n n.toNat ↔ Reach (nxR nx n) x n := by
  constructor
  · exact goodG_sound _ x
  · intro h
    have key : ∀ {a b : Int}, Reach (nxR nx n) a b → 0 ≤ a → 0 ≤ b ∧ (b ∈ goodG nx n n.toNat → a ∈ goodG nx n n.toNat) := by
      intro a b h
      induction h with
      | refl => intro h; exact ⟨h, fun h => h⟩
      | @step b c h1 h2 ih =>
        intro ha
        obtain ⟨i1, i2⟩ := ih ha
        unfold nxR at h2
        split at h2
        · cases h2
        · rename_i hlt
          refine ⟨hr b i1 (by omega) c h2, fun hc => i2 (good_cl b i1 (by omega) ⟨c, h2, hc⟩)⟩
    exact (key h h0).2 (goodG_end _)
end
/-! ### the track -/
section
variable {r : Rc} {n : Int}
theorem leastL_eq : leastL r = most r.near + most r.far + r.die.length := rfl
theorem goN_none {l : List Nt} (v : VN l) {x : Int} (h : most l < x ∨ x < 1) : goN l x = none := by
  cases e : goN l x with
  | none => rfl
  | some i => have := goN_bound v e; omega
theorem goTo_none {l : List Nt} (v : VN l) {x : Int} : goN l (goTo l x) = none := by
  unfold goTo
  cases e : goN l x with
  | none => exact e
  | some i => exact (goN_bound v e).2.2.2.2
/-- near the start -/
theorem near_x (v : RV r) (hn : leastL r ≤ n) {x : Int} (hx : x ≤ most r.near) : goAll r n x = goN r.near x := by
  have := leastL_eq (r := r)
  have := v.d1
  unfold goAll
  rw [goN_none v.far (.inl (by omega))]
theorem far_x (v : RV r) {x : Int} (hx : most r.near < x) : (goAll r n x).getD x = n - goTo r.far (n - x) := by
  unfold goAll goTo
  cases e : goN r.far (n - x) with
  | some i => rfl
  | none =>
    dsimp only
    rw [goN_none v.near (.inl hx)]
    simp only [Option.getD_none]
    omega
theorem far_none (v : RV r) {x : Int} (hx : most r.near < x) : goAll r n x = none ↔ goN r.far (n - x) = none := by
  unfold goAll
  cases e : goN r.far (n - x) with
  | some i => simp
  | none =>
    dsimp only
    rw [goN_none v.near (.inl hx)]
theorem faces_sub {k : Int} (h : k ∈ faces r.die) : 1 ≤ k ∧ k ≤ r.die.length := faces_mem h
/-- where a throw leads from near the start -/
theorem next_near (v : RV r) (hn : leastL r ≤ n) {p k : Int} (hp : p ≤ most r.near) (hk : k ∈ faces r.die) :
    (p + k ≤ most r.near → (nextP r n p k).1 = nearB r p k) ∧ (most r.near < p + k → (nextP r n p k).1 = n - goTo r.far (n - (p + k)) ∧ nearB r p k = p + k) := by
  have h1 := faces_mem hk
  have := leastL_eq (r := r)
  have := most_nonneg r.far
  have hno : ¬ n < p + k := by omega
  unfold nextP
  rw [if_neg hno]
  refine ⟨fun h => ?_, fun h => ⟨far_x v h, ?_⟩⟩
  · dsimp only
    rw [near_x v hn h]
    rfl
  · unfold nearB goTo
    rw [goN_none v.near (.inl h)]
    rfl
theorem next_mid (v : RV r) (hn : leastL r ≤ n) {p k : Int} (hp : most r.near < p) (hp2 : p < n - farSize r) (hk : k ∈ faces r.die) :
    (nextP r n p k).1 = n - goTo r.far (n - (p + k)) := by
  have h1 := faces_mem hk
  have := farSize_ge r
  unfold nextP
  rw [if_neg (by omega)]
  exact far_x v (by omega)
theorem farSize_lt (v : RV r) : farSize r < most r.far + r.die.length := by
  have := v.d1
  have := most_nonneg r.far
  unfold farSize
  omega
theorem next_far (v : RV r) (hn : leastL r ≤ n) {d k : Int} (hd0 : 1 ≤ d) (hd : d ≤ farSize r) (hk : k ∈ faces r.die) :
    (nextP r n (n - d) k).1 = match farB r d k with | some e => n - e | none => n - d := by
  have h1 := faces_mem hk
  have h2 := farSize_ge r
  have h3 := farSize_lt v
  have h4 := leastL_eq (r := r)
  unfold nextP farB
  by_cases h : d - k < 0
  · rw [if_pos h, if_pos (by omega)]
    cases r.rule with
    | stay => rfl
    | bounce =>
      dsimp only
      rw [far_x v (by omega)]
      congr 2
      omega
    | done =>
      dsimp only
      rw [far_x v (by omega)]
      congr 2
      omega
  · rw [if_neg h, if_neg (by omega)]
    dsimp only
    rw [far_x v (by omega)]
    congr 2
    omega
theorem goTo_far (v : RV r) {x : Int} (h0 : 0 ≤ x) : 0 ≤ goTo r.far x ∧ (goTo r.far x ≤ x ∨ goTo r.far x ≤ most r.far) := by
  unfold goTo
  cases e : goN r.far x with
  | none => simp only [Option.getD_none]; omega
  | some i => have := goN_bound v.far e; simp only [Option.getD_some]; omega
/-- all throws stay on the track -/
theorem nxT_range (v : RV r) (hn : leastL r ≤ n) {p q : Int} (hp : 0 ≤ p) (hp2 : p < n) (h : q ∈ nxT r n p) : 0 ≤ q ∧ q ≤ n := by
  have h2 := farSize_ge r
  have h3 := farSize_lt v
  have h4 := leastL_eq (r := r)
  have hc := most_nonneg r.near
  obtain ⟨k, hk, rfl⟩ := List.mem_map.mp h
  have h1 := faces_mem hk
  by_cases c1 : p ≤ most r.near
  · obtain ⟨a, b⟩ := next_near v hn c1 hk
    by_cases c2 : p + k ≤ most r.near
    · rw [a c2]
      have : nearB r p k ∈ nearNx r p := by
        unfold nearNx
        rw [if_neg (by omega)]
        exact List.mem_map.mpr ⟨k, hk, rfl⟩
      have h5 := near_closed v hp this
      have h6 := most_nonneg r.far
      omega
    · rw [(b (by omega)).1]
      have h5 := goTo_far v (x := n - (p + k)) (by have := most_nonneg r.far; omega)
      omega
  · by_cases c2 : p < n - farSize r
    · rw [next_mid v hn (by omega) c2 hk]
      have h5 := goTo_far v (x := n - (p + k)) (by omega)
      omega
    · obtain ⟨d, rfl⟩ : ∃ d, p = n - d := ⟨n - p, by omega⟩
      rw [next_far v hn (by omega) (by omega) hk]
      cases hb : farB r d k with
      | none => show 0 ≤ n - d ∧ n - d ≤ n; omega
      | some i =>
        show 0 ≤ n - i ∧ n - i ≤ n
        have : i ∈ farNx r d := by
          unfold farNx
          rw [if_neg (by omega)]
          exact List.mem_filterMap.mpr ⟨k, hk, hb⟩
        have h5 := far_closed v (by omega) (by omega) this
        omega
/-- from near the end -/
theorem far_reach (v : RV r) (hn : leastL r ≤ n) {d e : Int} (h0 : 0 ≤ d) (h1 : d ≤ farSize r) (h : Reach (farNx r) d e) : 0 ≤ e ∧ e ≤ farSize r ∧ Reach (nxR (nxT r n) n) (n - d) (n - e) := by
  induction h with
  | refl => exact ⟨h0, h1, .refl _⟩
  | @step b c _ h2 ih =>
    obtain ⟨i1, i2, i3⟩ := ih
    have h4 := far_closed v i1 i2 h2
    refine ⟨h4.1, h4.2, i3.step ?_⟩
    unfold farNx at h2
    split at h2
    · cases h2
    · obtain ⟨k, hk, hb⟩ := List.mem_filterMap.mp h2
      unfold nxR
      rw [if_neg (by omega)]
      refine List.mem_map.mpr ⟨k, hk, ?_⟩
      rw [next_far v hn (by omega) (by omega) hk, hb]
theorem far_back (v : RV r) (hn : leastL r ≤ n) {d b : Int} (h0 : 0 ≤ d) (h1 : d ≤ farSize r) (h : Reach (nxR (nxT r n) n) (n - d) b) : 0 ≤ n - b ∧ n - b ≤ farSize r ∧ Reach (farNx r) d (n - b) := by
  generalize ha : n - d = a at h
  induction h with
  | refl =>
    subst ha
    rw [show n - (n - d) = d by omega]
    exact ⟨h0, h1, .refl _⟩
  | @step b c _ h2 ih =>
    obtain ⟨i1, i2, i3⟩ := ih
    unfold nxR at h2
    split at h2
    · cases h2
    · obtain ⟨k, hk, rfl⟩ := List.mem_map.mp h2
      obtain ⟨e, rfl⟩ : ∃ e, b = n - e := ⟨n - b, by omega⟩
      rw [show n - (n - e) = e by omega] at i1 i2 i3
      rw [next_far v hn (by omega) i2 hk]
      cases hb : farB r e k with
      | none =>
        show 0 ≤ n - (n - e) ∧ n - (n - e) ≤ farSize r ∧ Reach (farNx r) d (n - (n - e))
        rw [show n - (n - e) = e by omega]
        exact ⟨i1, i2, i3⟩
      | some i =>
        show 0 ≤ n - (n - i) ∧ n - (n - i) ≤ farSize r ∧ Reach (farNx r) d (n - (n - i))
        rw [show n - (n - i) = i by omega]
        have hm : i ∈ farNx r e := by
          unfold farNx
          rw [if_neg (by omega)]
          exact List.mem_filterMap.mpr ⟨k, hk, hb⟩
        have h4 := far_closed v i1 i2 hm
        exact ⟨h4.1, h4.2, i3.step hm⟩
/-- from the middle -/
theorem mid_reach (v : RV r) (hn : leastL r ≤ n) (hf : ∃ k, k ∈ faces r.die) (E : ∀ d, 1 ≤ d → d ≤ farSize r → goN r.far d = none → Reach (farNx r) d 0) :
    ∀ (m : Nat) (p : Int), (n - p).toNat ≤ m → most r.near < p → p ≤ n → goN r.far (n - p) = none → Reach (nxR (nxT r n) n) p n := by
  have hs := farSize_ge r
  have hlt := farSize_lt v
  have hb := most_nonneg r.far
  intro m
  induction m with
  | zero =>
    intro p h1 h2 h3 _
    rw [show p = n by omega]
    exact .refl n
  | succ m ih =>
    intro p h1 h2 h3 h4
    by_cases hpn : p = n
    · rw [hpn]; exact .refl n
    · by_cases hfar : n - farSize r ≤ p
      · have := far_reach v hn (d := n - p) (by omega) (by omega) (E (n - p) (by omega) (by omega) h4)
        rw [show n - (n - p) = p by omega, Int.sub_zero] at this
        exact this.2.2
      · obtain ⟨k, hk⟩ := hf
        have hk1 := faces_mem hk
        have hq : (nextP r n p k).1 ∈ nxR (nxT r n) n p := by
          unfold nxR
          rw [if_neg (by omega)]
          exact List.mem_map.mpr ⟨k, hk, rfl⟩
        rw [next_mid v hn h2 (by omega) hk] at hq
        refine Reach.head hq ?_
        have hg := goTo_none v.far (x := n - (p + k))
        cases e : goN r.far (n - (p + k)) with
        | none =>
          have : goTo r.far (n - (p + k)) = n - (p + k) := by unfold goTo; rw [e]; rfl
          rw [this]
          rw [this] at hg
          exact ih _ (by omega) (by omega) (by omega) (by rw [show n - (n - (n - (p + k))) = n - (p + k) by omega]; exact hg)
        | some i =>
          have h5 := goN_bound v.far e
          have : goTo r.far (n - (p + k)) = i := by unfold goTo; rw [e]; rfl
          rw [this]
          by_cases h0 : i = 0
          · rw [h0, Int.sub_zero]; exact .refl n
          · have := far_reach v hn (d := i) (by omega) (by omega) (E i (by omega) (by omega) h5.2.2.2.2)
            rw [Int.sub_zero] at this
            exact this.2.2
/-- from near the start -/
theorem near_reach (v : RV r) (hn : leastL r ≤ n) {p q : Int} (h0 : 0 ≤ p) (h1 : p ≤ most r.near) (h : Reach (nearNx r) p q) :
    0 ≤ q ∧ (q ≤ most r.near → Reach (nxR (nxT r n) n) p q) ∧ (most r.near < q → ∃ q', most r.near < q' ∧ q' ≤ n ∧ goN r.far (n - q') = none ∧ Reach (nxR (nxT r n) n) p q') := by
  have hlq := leastL_eq (r := r)
  have hb := most_nonneg r.far
  induction h with
  | refl => exact ⟨h0, fun _ => .refl _, fun h => absurd h (by omega)⟩
  | @step b c h3 h2 ih =>
    obtain ⟨i1, i2, i3⟩ := ih
    have h4 := near_closed v i1 h2
    unfold nearNx at h2
    split at h2
    · cases h2
    · rename_i hbl
      obtain ⟨k, hk, rfl⟩ := List.mem_map.mp h2
      have hk1 := faces_mem hk
      obtain ⟨n1, n2⟩ := next_near v hn (p := b) (by omega) hk
      have hm : (nextP r n b k).1 ∈ nxR (nxT r n) n b := by
        unfold nxR
        rw [if_neg (by have := v.d1; omega)]
        exact List.mem_map.mpr ⟨k, hk, rfl⟩
      refine ⟨h4.1, fun hc => ?_, fun hc => ?_⟩
      · have hle : b + k ≤ most r.near := by
          by_cases hh : b + k ≤ most r.near
          · exact hh
          · have := (n2 (by omega)).2; omega
        rw [n1 hle] at hm
        exact (i2 (by omega)).step hm
      · have hgt : most r.near < b + k := by
          by_cases hh : most r.near < b + k
          · exact hh
          · have hh : b + k ≤ most r.near := by omega
            have : nearB r b k ≤ most r.near := by
              unfold nearB goTo
              cases e : goN r.near (b + k) with
              | none => simp only [Option.getD_none]; omega
              | some i => have := goN_bound v.near e; simp only [Option.getD_some]; omega
            omega
        rw [(n2 hgt).1] at hm
        have hg := goTo_none v.far (x := n - (b + k))
        have hgb := goTo_far v (x := n - (b + k)) (by omega)
        refine ⟨_, ?_, ?_, ?_, (i2 (by omega)).step hm⟩
        · have := v.d1; omega
        · omega
        · rw [show n - (n - goTo r.far (n - (b + k))) = goTo r.far (n - (b + k)) by omega]; exact hg
theorem near_back (v : RV r) (hn : leastL r ≤ n) {p b : Int} (h0 : 0 ≤ p) (h1 : p ≤ most r.near) (h : Reach (nxR (nxT r n) n) p b) :
    (0 ≤ b ∧ b ≤ most r.near ∧ Reach (nearNx r) p b) ∨ ∃ q, most r.near < q ∧ Reach (nearNx r) p q := by
  have hlq := leastL_eq (r := r)
  have hb := most_nonneg r.far
  induction h with
  | refl => exact .inl ⟨h0, h1, .refl _⟩
  | @step b c h3 h2 ih =>
    rcases ih with ⟨i0, i1, i2⟩ | i
    · unfold nxR at h2
      split at h2
      · cases h2
      · obtain ⟨k, hk, rfl⟩ := List.mem_map.mp h2
        obtain ⟨n1, n2⟩ := next_near v hn (p := b) i1 hk
        have hm : nearB r b k ∈ nearNx r b := by
          unfold nearNx
          rw [if_neg (by omega)]
          exact List.mem_map.mpr ⟨k, hk, rfl⟩
        have h4 := near_closed v i0 hm
        by_cases hh : b + k ≤ most r.near
        · rw [n1 hh]
          by_cases hc : nearB r b k ≤ most r.near
          · exact .inl ⟨h4.1, hc, i2.step hm⟩
          · exact .inr ⟨_, by omega, i2.step hm⟩
        · exact .inr ⟨_, by rw [(n2 (by omega)).2]; omega, i2.step hm⟩
    · exact .inr i
/-- both looks are one -/
theorem ends_iff (v : RV r) (hn : leastL r ≤ n) : lawEndsB r n = true ↔ EndsOK r := by
  have hlq := leastL_eq (r := r)
  have hb := most_nonneg r.far
  have hc := most_nonneg r.near
  have hs := farSize_ge r
  have hlt := farSize_lt v
  have hd1 := v.d1
  have good : ∀ x, 0 ≤ x → (x ∈ lawGood r n ↔ Reach (nxR (nxT r n) n) x n) := fun x hx => good_iff (fun p p0 p1 q hq => (nxT_range v hn p0 p1 hq).1) hx
  have e1 : lawEndsB r n = true ↔ ∀ p, 0 ≤ p → p < n → goAll r n p = none → Reach (nxR (nxT r n) n) p n := by
    unfold lawEndsB
    rw [beq_iff_eq, List.length_eq_zero_iff, List.filter_eq_nil_iff]
    constructor
    · intro h p p0 p1 p2
      have := h p (mem_range'.mpr ⟨p0, p1⟩)
      rw [p2] at this
      simp only [Option.isNone_none, Bool.and_true, Bool.not_eq_true', decide_eq_false_iff_not, Decidable.not_not] at this
      exact (good p p0).mp this
    · intro h p hp hh
      obtain ⟨p0, p1⟩ := mem_range'.mp hp
      rw [Bool.and_eq_true, Bool.not_eq_true', decide_eq_false_iff_not, Option.isNone_iff_eq_none] at hh
      exact hh.1 ((good p p0).mpr (h p p0 p1 hh.2))
  rw [e1]
  constructor
  · intro h
    refine ⟨fun p p0 p1 p2 => ?_, fun d d1 d2 d3 => ?_⟩
    · have := h p p0 (by omega) (by rw [near_x v hn p1]; exact p2)
      rcases near_back v hn p0 p1 this with ⟨_, q, _⟩ | ⟨q, q1, q2⟩
      · omega
      · exact ⟨q, q2, q1⟩
    · have := h (n - d) (by omega) (by omega) (by rw [far_none v (by omega), show n - (n - d) = d by omega]; exact d3)
      have := (far_back v hn (by omega) d2 this).2.2
      rw [show n - n = 0 by omega] at this
      exact this
  · intro E p p0 p1 p2
    have hface : ∃ k, k ∈ faces r.die := by
      obtain ⟨q, q1, q2⟩ := E.near 0 (by omega) hc (goN_none v.near (.inr (by omega)))
      have key : ∀ {q}, Reach (nearNx r) 0 q → q = 0 ∨ ∃ k, k ∈ faces r.die := by
        intro q hq
        induction hq with
        | refl => exact .inl rfl
        | step _ h2 _ =>
          right
          unfold nearNx at h2
          split at h2
          · cases h2
          · obtain ⟨k, hk, _⟩ := List.mem_map.mp h2
            exact ⟨k, hk⟩
      rcases key q1 with rfl | h
      · omega
      · exact h
    have mid := mid_reach v hn hface E.far
    by_cases c1 : p ≤ most r.near
    · rw [near_x v hn c1] at p2
      obtain ⟨q, q1, q2⟩ := E.near p p0 c1 p2
      obtain ⟨q', a1, a2, a3, a4⟩ := (near_reach v hn p0 c1 q1).2.2 q2
      exact a4.trans (mid _ q' (Nat.le_refl _) a1 a2 a3)
    · rw [far_none v (by omega)] at p2
      exact mid _ p (Nat.le_refl _) (by omega) (by omega) p2
end
end Rl

set_option Elab.async false
set_option linter.all false
set_option maxRecDepth 100000
set_option maxHeartbeats 4000000
/-! Pl P: draws. -/
namespace Rl
open PySem L2
def IsRow (ns : List Int) (d : D) : Prop := ∃ p s r : Int, d = .lst [.scr (ns.map .int), .int p, .int s, .int r] ∧ 0 ≤ p ∧ 0 ≤ s ∧ s < 2147483648
def S_taken (fi : FI) : Prop := fi.mask = [true, false] ∧ ∀ ns d m, IsRow ns d → 0 < m → m < 100000 → ∃ k d', 0 ≤ k ∧ k < m ∧ IsRow ns d' ∧ fi.sem [d, .int m] = some (.ret false (.int k) [d'])
@[simp] theorem sto_1 {a b v : D} {l : List D} : storeD (.lst (a :: b :: l)) (.int 1) v = some (.lst (a :: v :: l)) := by
  simp only [storeD, ixN, List.length_cons]
  rw [if_pos (by decide), if_pos (by omega)]
  rfl
@[simp] theorem sto_2 {a b c v : D} {l : List D} : storeD (.lst (a :: b :: c :: l)) (.int 2) v = some (.lst (a :: b :: v :: l)) := by
  simp only [storeD, ixN, List.length_cons]
  rw [if_pos (by decide), if_pos (by omega)]
  rfl
@[simp] theorem sto_3 {a b c e v : D} {l : List D} : storeD (.lst (a :: b :: c :: e :: l)) (.int 3) v = some (.lst (a :: b :: c :: v :: l)) := by
  simp only [storeD, ixN, List.length_cons]
  rw [if_pos (by decide), if_pos (by omega)]
  rfl
@[simp] theorem idx_scr {l : List D} {i : Int} : idxD (.scr l) (.int i) = atI l i := rfl
@[simp] theorem len_scr {l : List D} : bltD .len [.scr l] = some (.dat (.int l.length)) := rfl
@[simp] theorem int_int {i : Int} : bltD .int [.int i] = some (.dat (.int i)) := rfl
theorem fmodR {a m : Int} (h : 0 < m) : 0 ≤ a.fmod m ∧ a.fmod m < m := ⟨Int.fmod_nonneg_of_pos a h, Int.fmod_lt_of_pos a h⟩
theorem log2_lt30 {n : Nat} (h : n < 2147483648) : n.log2 < 31 := by
  by_cases h0 : n = 0
  · subst h0; simp
  · exact (Nat.log2_lt h0).mpr h
theorem law_taken_ok {cf : Cfg} {F : Nat} : S_taken ⟨[true, false], run cf F [true, false] 4 m_law_taken⟩ := by
  refine ⟨rfl, ?_⟩
  rintro ns d m ⟨p, s, r, rfl, hp, hs0, hs⟩ hm hm2
  suffices h : Rn ((FI.mk [true, false] (run cf F [true, false] 4 m_law_taken)).sem [.lst [.scr (ns.map .int), .int p, .int s, .int r], .int m]) (fun o => ∃ k d', 0 ≤ k ∧ k < m ∧ IsRow ns d' ∧ o = .ret false (.int k) [d']) by
    obtain ⟨o, h1, k, d', a, b, c, rfl⟩ := h
    exact ⟨k, d', a, b, c, h1⟩
  have hm0 : m ≠ 0 := by omega
  have e1 : mulOk s 48271 = true := mulOk_of (by
    have := log2_lt30 (n := s.natAbs) (by omega)
    have : (48271 : Int).natAbs.log2 = 15 := by decide +kernel
    omega)
  have e2 : divOk 7 = true := by decide +kernel
  have e3 : divOk m = true := divOk_of hm0 (log2_small (by omega))
  have hM : (0 : Int) < 2147483647 := by decide
  apply fi_rn rfl
  by_cases hr : 0 < r
  · simp -implicitDefEqProofs -dsimp [m_law_taken, hr, hm0, e3]
    exact ⟨_, (fmodR hm).1, (fmodR hm).2, ⟨p, s, _, rfl, hp, hs0, hs⟩, rfl⟩
  · by_cases hl : (ns.length : Int) < p + 1
    · simp -implicitDefEqProofs -dsimp [m_law_taken, hr, hl, hm0, e1, e2]
      exact ⟨_, (fmodR hm).1, (fmodR hm).2, ⟨p + 1, _, r, rfl, by omega, (fmodR hM).1, by have := (fmodR (a := s * 48271 + 11) hM).2; omega⟩, rfl⟩
    · have hlt : p.toNat < ns.length := by omega
      have e4 : atI (ns.map D.int) p = some (.int ns[p.toNat]) := by
        unfold atI ixN
        rw [if_pos hp, if_pos (by rw [List.length_map]; omega)]
        show (ns.map D.int)[p.toNat]? = _
        rw [List.getElem?_map, List.getElem?_eq_getElem hlt]
        rfl
      have e5 : p + 1 - 1 = p := by omega
      by_cases h18 : (1000000000000000000 : Int) ≤ ns[p.toNat]
      · simp -implicitDefEqProofs -dsimp [m_law_taken, hr, hl, hm0, e1, e5, e4, h18, e3]
        exact ⟨_, (fmodR hm).1, (fmodR hm).2, ⟨p + 1, _, _, rfl, by omega, (fmodR hM).1, by have := (fmodR (a := s * 48271 + ns[p.toNat] + 11) hM).2; omega⟩, rfl⟩
      · simp -implicitDefEqProofs -dsimp [m_law_taken, hr, hl, hm0, e1, e5, e4, h18]
        exact ⟨_, (fmodR hm).1, (fmodR hm).2, ⟨p + 1, _, _, rfl, by omega, (fmodR hM).1, by have := (fmodR (a := s * 48271 + ns[p.toNat] + 11) hM).2; omega⟩, rfl⟩
theorem ev_taken {ns : List Int} {fi : FI} {δ : Env} {X : XX} {i : Nat} {d : D} {m : Int} {Q : R → Env → Prop} (h : S_taken fi) (hi : δ[i]? = some (some (.own d))) (hd : IsRow ns d) (m0 : 0 < m) (m1 : m < 100000)
    (k : ∀ k d', 0 ≤ k → k < m → IsRow ns d' → Q (.dat (.int k)) (δ.set i (some (.own d')))) : Ev (callR fi [.bor i, .dat (.int m)]) δ Q X := by
  obtain ⟨hm, hs⟩ := h
  obtain ⟨j, d', a, b, c, e⟩ := hs ns d m hd m0 m1
  refine ev_call (P := fun _ => True) ?_ ?_
  · unfold callPure
    rw [hm]
    rfl
  · rw [hm, ev_giveAt_t, ev_giveAt_f, ev_give_dat, ev_giveAt_nil]
    have h1 : ins δ [true, false] [.bor i, .dat (.int m)] = some [d, .int m] := by
      show (match (motive := Option (Option B) → Option (List D) → Option (List D)) δ[i]?, (ins δ [] []).map (D.int m :: ·) with | some (some (.own d)), some ds => some (d :: ds) | _, _ => none) = _
      rw [hi]
      rfl
    rw [h1, oK_some]
    refine ⟨by simp [slotsAt], _, e, ?_⟩
    show oK (some _) _
    exact k j d' a b c
/-- notes as they are drawn -/
structure DN (l : List Nt) : Prop where
  asc : l.Pairwise (fun a b => a.p < b.p)
  pl : ∀ x ∈ l, 1 ≤ x.p ∧ x.p ≤ 3
  go : ∀ x ∈ l, x.g = true → 0 ≤ x.n ∧ x.n ≤ 4 ∧ ∀ y ∈ l, y.p ≠ x.n
  wt : ∀ x ∈ l, x.g = false → 1 ≤ x.n ∧ x.n ≤ 2
theorem DN.vn {l : List Nt} (d : DN l) : VN l := ⟨d.asc, fun x hx => by have := d.pl x hx; omega, fun x hx hg => by have := d.go x hx hg; exact ⟨this.1, by omega, this.2.2⟩, fun x hx hg => by have := d.wt x hx hg; omega⟩
structure PN (j : Int) (l : List Nt) : Prop where
  asc : l.Pairwise (fun a b => a.p < b.p)
  pl : ∀ x ∈ l, 1 ≤ x.p ∧ x.p ≤ j
  go : ∀ x ∈ l, x.g = true → 0 ≤ x.n ∧ x.n ≤ 4
  wt : ∀ x ∈ l, x.g = false → 1 ≤ x.n ∧ x.n ≤ 2
theorem PN.up {j : Int} {l : List Nt} (h : PN j l) : PN (j + 1) l := ⟨h.asc, fun x hx => by have := h.pl x hx; omega, h.go, h.wt⟩
theorem PN.add {j : Int} {l : List Nt} {y : Nt} (h : PN j l) (j0 : 0 ≤ j) (hp : y.p = j + 1) (hg : y.g = true → 0 ≤ y.n ∧ y.n ≤ 4) (hw : y.g = false → 1 ≤ y.n ∧ y.n ≤ 2) : PN (j + 1) (l ++ [y]) := by
  refine ⟨List.pairwise_append.mpr ⟨h.asc, List.pairwise_singleton _ _, fun a ha b hb => ?_⟩, fun x hx => ?_, fun x hx => ?_, fun x hx => ?_⟩
  · rw [List.mem_singleton.mp hb, hp]
    have := h.pl a ha
    omega
  all_goals
    rcases List.mem_append.mp hx with hx | hx
    first
      | (have := h.pl x hx; omega)
      | exact h.go x hx
      | exact h.wt x hx
  · rw [List.mem_singleton.mp hx, hp]; omega
  · rw [List.mem_singleton.mp hx]; exact hg
  · rw [List.mem_singleton.mp hx]; exact hw
def S_law_notes (fi : FI) : Prop := fi.mask = [true] ∧ ∀ ns d, IsRow ns d → ∃ l d', DN l ∧ IsRow ns d' ∧ fi.sem [d] = some (.ret false (ntsD l) [d'])
theorem law_notes_ok {cf : Cfg} {F : Nat} (h : Kn cf "_law_taken" S_taken) : S_law_notes ⟨[true], run cf F [true] 7 m_law_notes⟩ := by
  obtain ⟨f1, g1, s1⟩ := h
  refine ⟨rfl, fun ns d hd => ?_⟩
  suffices h : Rn ((FI.mk [true] (run cf F [true] 7 m_law_notes)).sem [d]) (fun o => ∃ l d', DN l ∧ IsRow ns d' ∧ o = .ret false (ntsD l) [d']) by
    obtain ⟨o, h1, l, d', a, b, rfl⟩ := h
    exact ⟨l, d', a, b, h1⟩
  apply fi_rn rfl
  have r1 : rngOk 1 = true := by decide +kernel
  have r4 : rngOk 4 = true := by decide +kernel
  have e14 : rangeD 1 4 = [0, 1, 2].map (fun k : Nat => D.int (1 + (k : Int))) := rfl
  simp -implicitDefEqProofs -dsimp [m_law_notes, r1, r4, e14]
  rw [← show rangeD 1 4 = [D.int 1, .int 2, .int 3] from rfl, e14]
  refine ev_frM_map (fun rem δ => ∃ j : Nat, j ≤ 3 ∧ rem = List.range' j (3 - j) ∧ ∃ l d x2 x3 x4, δ = [some (.own d), some (.own (.lst (l.map Nt.d))), x2, x3, x4, none, none] ∧ IsRow ns d ∧ PN j l ∧ l.length ≤ j) (by simp) ⟨0, by omega, rfl, [], d, none, none, none, rfl, hd, ⟨List.Pairwise.nil, by simp, by simp, by simp⟩, by simp⟩ ?_ ?_
  · rintro k rem δ ⟨j, hj, hk, l, d, x2, x3, x4, rfl, hd, hp, hl⟩
    have hj3 : j < 3 := by
      by_cases h : j < 3
      · exact h
      · rw [show 3 - j = 0 by omega] at hk; cases hk
    rw [show 3 - j = (3 - (j + 1)) + 1 by omega, List.range'_succ] at hk
    injection hk with hk1 hk2
    subst hk1
    refine ⟨_, by simp; rfl, ?_⟩
    have hpu : PN ((k : Int) + 1) l := hp.up
    have e1 : l.length < 16777216 := by omega
    simp -implicitDefEqProofs -dsimp [g1]
    refine ev_taken s1 (by simp) hd (by decide) (by decide) fun a d1 a0 a1 hd1 => ?_
    by_cases ha : a = 0
    · simp -implicitDefEqProofs -dsimp [ha, g1]
      refine ev_taken s1 (by simp) hd1 (by decide) (by decide) fun b d2 b0 b1 hd2 => ?_
      rcases (show b = 0 ∨ b = 1 by omega) with rfl | rfl
      · simp -implicitDefEqProofs -dsimp [g1]
        refine ev_taken s1 (by simp) hd2 (by decide) (by decide) fun c d3 c0 c1 hd3 => ?_
        simp -implicitDefEqProofs -dsimp [g1]
        refine ev_taken s1 (by simp) hd3 (by decide) (by decide) fun e d4 e0 e2 hd4 => ?_
        simp -implicitDefEqProofs -dsimp [appD, e1]
        refine ⟨k + 1, by omega, by rw [hk2], l ++ [⟨1 + k, true, e⟩], d4, ⟨rfl, by simp [Nt.d, wd]⟩, hd4, ?_, by simp; omega⟩
        exact hp.add (by omega) (by show (1 : Int) + k = k + 1; omega) (fun _ => ⟨e0, by show e ≤ 4; omega⟩) (fun h => by cases h)
      · simp -implicitDefEqProofs -dsimp [g1]
        refine ev_taken s1 (by simp) hd2 (by decide) (by decide) fun c d3 c0 c1 hd3 => ?_
        simp -implicitDefEqProofs -dsimp [appD, e1]
        refine ⟨k + 1, by omega, by rw [hk2], l ++ [⟨1 + k, false, 1 + c⟩], d3, ⟨rfl, by simp [Nt.d, wd]⟩, hd3, ?_, by simp; omega⟩
        exact hp.add (by omega) (by show (1 : Int) + k = k + 1; omega) (fun h => by cases h) (fun _ => ⟨by show 1 ≤ 1 + c; omega, by show 1 + c ≤ 2; omega⟩)
    · simp -implicitDefEqProofs -dsimp [ha]
      exact ⟨k + 1, by omega, by rw [hk2], l, d1, ⟨rfl, rfl⟩, hd1, hpu, by omega⟩
  · rintro δ ⟨j, hj, hk, l, d, x2, x3, x4, rfl, hd, hp, hl⟩
    have hj3 : j = 3 := by
      by_cases h : j < 3
      · rw [show 3 - j = (3 - (j + 1)) + 1 by omega, List.range'_succ] at hk; cases hk
      · omega
    subst hj3
    have e1 : l.length ≤ 16777216 := by omega
    simp -implicitDefEqProofs -dsimp
    refine ev_lc_map (fun x => .int x.p) (by simp) (fun x hx => by simp -implicitDefEqProofs -dsimp [ev_lcTurn]) ?_
    simp -implicitDefEqProofs -dsimp [e1]
    have hin : ∀ i : Int, inD (.int i) (List.map (fun x : Nt => D.int x.p) l) = some (decide (i ∈ l.map (·.p))) := by
      intro i
      rw [← inD_intL]
      unfold intL
      rw [List.map_map]
      rfl
    refine ev_lc_filter (fun x => !x.g || !decide (x.n ∈ l.map (·.p))) Nt.d (by simp) (fun x hx => ?_) ?_
    · cases hg : x.g
      · simp -implicitDefEqProofs -dsimp [ev_lcTurn, hg]
      · by_cases hx2 : x.n ∈ l.map (·.p)
        · simp -implicitDefEqProofs -dsimp [ev_lcTurn, hg, hin, hx2]
        · simp -implicitDefEqProofs -dsimp [ev_lcTurn, hg, hin, hx2]
    · have e2 : ((l.filter (fun x => !x.g || !decide (x.n ∈ l.map (·.p)))).length) ≤ 16777216 := Nat.le_trans (List.length_filter_le _ _) e1
      rw [if_pos (by rw [List.length_map]; exact szOk_of e2)]
      simp -implicitDefEqProofs -dsimp [bltD]
      refine ⟨l.filter (fun x => !x.g || !decide (x.n ∈ l.map (·.p))), ?_, hd, by simp [ntsD]⟩
      refine ⟨hp.asc.filter _, fun x hx => ?_, fun x hx hg => ?_, fun x hx hg => ?_⟩
      · have := hp.pl x (List.mem_filter.mp hx).1
        omega
      · obtain ⟨hx1, hx2⟩ := List.mem_filter.mp hx
        have := hp.go x hx1 hg
        refine ⟨this.1, this.2, fun y hy he => ?_⟩
        rw [hg] at hx2
        simp only [Bool.not_true, Bool.false_or, Bool.not_eq_true', decide_eq_false_iff_not] at hx2
        exact hx2 (List.mem_map.mpr ⟨y, (List.mem_filter.mp hy).1, he⟩)
      · exact hp.wt x (List.mem_filter.mp hx).1 hg
/-! ### a drawn race -/
def dice : List (List Int) := [[1, 1], [1, 2], [3, 1], [1, 1, 1], [2, 0, 1], [0, 1, 1], [1, 0, 0, 2], [1], [1, 2, 3], [5, 1]]
theorem dice_vd : ∀ d ∈ dice, VD d := by
  intro d hd
  simp only [dice, List.mem_cons, List.not_mem_nil, or_false] at hd
  rcases hd with rfl | rfl | rfl | rfl | rfl | rfl | rfl | rfl | rfl | rfl
  all_goals exact ⟨by decide, by decide, by decide, by decide, by decide⟩
/-- a race as it is drawn -/
structure DR (r : Rc) : Prop where
  die : r.die ∈ dice
  near : DN r.near
  far : DN r.far
  ends : EndsOK r
theorem DN.nil : DN [] := ⟨List.Pairwise.nil, by simp, by simp, by simp⟩
theorem rv_dice {r : Rc} (h : r.die ∈ dice) (h1 : DN r.near) (h2 : DN r.far) : RV r := RV.of (dice_vd _ h) h1.vn h2.vn
theorem DR.rv {r : Rc} (h : DR r) : RV r := rv_dice h.die h.near h.far
theorem face_ex {die : List Int} (hd : VD die) : ∃ k, k ∈ faces die := by
  have hne : die ≠ [] := by intro h; have := hd.d1; rw [h] at this; simp at this
  have h1 := hd.la _ (List.getLast?_eq_some_getLast hne)
  have h2 := hd.sh _ (List.getLast_mem hne)
  refine ⟨((die.length - 1 : Nat) : Int) + 1, ?_⟩
  rw [faces_range]
  refine List.mem_map.mpr ⟨die.length - 1, List.mem_filter.mpr ⟨List.mem_range.mpr (by have := hd.d1; omega), ?_⟩, rfl⟩
  have : die.getD (die.length - 1) 0 = die.getLast hne := by
    rw [List.getD_eq_getElem?_getD, ← List.getLast?_eq_getElem?, List.getLast?_eq_some_getLast hne]
    rfl
  rw [this]
  exact decide_eq_true (by omega)
/-- with "done" and no notes the end is come to -/
theorem done_ends {die : List Int} (hd : VD die) : EndsOK ⟨die, .done, [], []⟩ := by
  obtain ⟨k, hk⟩ := face_ex hd
  have hk1 := faces_mem hk
  have hg : ∀ x, goTo [] x = x := fun _ => rfl
  refine ⟨fun p p0 p1 _ => ⟨p + k, .step (.refl p) ?_, ?_⟩, fun d d1 d2 _ => ?_⟩
  · unfold nearNx
    rw [if_neg (by omega)]
    exact List.mem_map.mpr ⟨k, hk, rfl⟩
  · show most [] < p + k
    have : most [] = 0 := rfl
    omega
  · have key : ∀ (m : Nat) (d : Int), d.toNat ≤ m → 0 ≤ d → Reach (farNx ⟨die, .done, [], []⟩) d 0 := by
      intro m
      induction m with
      | zero => intro d h1 h2; rw [show d = 0 by omega]; exact .refl 0
      | succ m ih =>
        intro d h1 h2
        by_cases h0 : d = 0
        · rw [h0]; exact .refl 0
        · by_cases hlt : d - k < 0
          · refine .step (.refl d) ?_
            unfold farNx
            rw [if_neg h0]
            refine List.mem_filterMap.mpr ⟨k, hk, ?_⟩
            unfold farB
            rw [if_pos hlt]
            rfl
          · refine Reach.head ?_ (ih (d - k) (by omega) (by omega))
            unfold farNx
            rw [if_neg h0]
            refine List.mem_filterMap.mpr ⟨k, hk, ?_⟩
            unfold farB
            rw [if_neg hlt]
            rfl
    exact key _ d (Nat.le_refl _) (by omega)
@[simp] theorem put_near {r : Rc} {l : List Nt} : storeD (lawD r) (.str "near") (ntsD l) = some (lawD { r with near := l }) := by
  simp [lawD, storeD, putKD]
@[simp] theorem put_far {r : Rc} {l : List Nt} : storeD (lawD r) (.str "far") (ntsD l) = some (lawD { r with far := l }) := by
  simp [lawD, storeD, putKD]
@[simp] theorem put_rule {r : Rc} {l : Rul} : storeD (lawD r) (.str "rule") (.str l.s) = some (lawD { r with rule := l }) := by
  simp [lawD, storeD, putKD]
def S_law_drawn (fi : FI) : Prop := fi.mask = [true] ∧ ∀ ns d, IsRow ns d → ∃ r d', DR r ∧ IsRow ns d' ∧ fi.sem [d] = some (.ret true (lawD r) [d'])
theorem ev_notes {ns : List Int} {fi : FI} {δ : Env} {X : XX} {i : Nat} {d : D} {Q : R → Env → Prop} (h : S_law_notes fi) (hi : δ[i]? = some (some (.own d))) (hd : IsRow ns d)
    (k : ∀ l d', DN l → IsRow ns d' → Q (.dat (ntsD l)) (δ.set i (some (.own d')))) : Ev (callR fi [.bor i]) δ Q X := by
  obtain ⟨hm, hs⟩ := h
  obtain ⟨l, d', a, b, e⟩ := hs ns d hd
  refine ev_call (P := fun _ => True) ?_ ?_
  · unfold callPure
    rw [hm]
    rfl
  · rw [hm, ev_giveAt_t, ev_giveAt_nil]
    have h1 : ins δ [true] [.bor i] = some [d] := by
      show (match (motive := Option (Option B) → Option (List D) → Option (List D)) δ[i]?, ins δ [] [] with | some (some (.own d)), some ds => some (d :: ds) | _, _ => none) = _
      rw [hi]
      rfl
    rw [h1, oK_some]
    refine ⟨by simp [slotsAt], _, e, ?_⟩
    show oK (some _) _
    exact k l d' a b
theorem law_drawn_ok {cf : Cfg} {F : Nat} (h1 : Kn cf "_law_taken" S_taken) (h2 : Kn cf "_law_notes" S_law_notes) (h3 : Kn cf "_law_ends" S_law_ends) : S_law_drawn ⟨[true], run cf F [true] 5 m_law_drawn⟩ := by
  obtain ⟨f1, g1, s1⟩ := h1
  obtain ⟨f2, g2, s2⟩ := h2
  obtain ⟨f3, g3, m3, s3⟩ := h3
  refine ⟨rfl, fun ns d hd => ?_⟩
  suffices h : Rn ((FI.mk [true] (run cf F [true] 5 m_law_drawn)).sem [d]) (fun o => ∃ r d', DR r ∧ IsRow ns d' ∧ o = .ret true (lawD r) [d']) by
    obtain ⟨o, h1, l, d', a, b, rfl⟩ := h
    exact ⟨l, d', a, b, h1⟩
  apply fi_rn rfl
  simp -implicitDefEqProofs -dsimp [m_law_drawn, g1]
  refine ev_taken s1 (by simp) hd (by decide) (by decide) fun a d1 a0 a1 hd1 => ?_
  obtain ⟨die, hdie, e1⟩ : ∃ die ∈ dice, atI [D.tup [.int 1, .int 1], .tup [.int 1, .int 2], .tup [.int 3, .int 1], .tup [.int 1, .int 1, .int 1], .tup [.int 2, .int 0, .int 1], .tup [.int 0, .int 1, .int 1], .tup [.int 1, .int 0, .int 0, .int 2], .tup [.int 1], .tup [.int 1, .int 2, .int 3], .tup [.int 5, .int 1]] a = some (dieD die) := by
    rcases (show a = 0 ∨ a = 1 ∨ a = 2 ∨ a = 3 ∨ a = 4 ∨ a = 5 ∨ a = 6 ∨ a = 7 ∨ a = 8 ∨ a = 9 by omega) with rfl | rfl | rfl | rfl | rfl | rfl | rfl | rfl | rfl | rfl
    · exact ⟨[1, 1], by decide, rfl⟩
    · exact ⟨[1, 2], by decide, rfl⟩
    · exact ⟨[3, 1], by decide, rfl⟩
    · exact ⟨[1, 1, 1], by decide, rfl⟩
    · exact ⟨[2, 0, 1], by decide, rfl⟩
    · exact ⟨[0, 1, 1], by decide, rfl⟩
    · exact ⟨[1, 0, 0, 2], by decide, rfl⟩
    · exact ⟨[1], by decide, rfl⟩
    · exact ⟨[1, 2, 3], by decide, rfl⟩
    · exact ⟨[5, 1], by decide, rfl⟩
  simp -implicitDefEqProofs -dsimp [e1, g1]
  refine ev_taken s1 (by simp) hd1 (by decide) (by decide) fun b d2 b0 b1 hd2 => ?_
  obtain ⟨rule, e2⟩ : ∃ rule : Rul, atI [D.str "bounce", .str "done", .str "stay"] b = some (.str rule.s) := by
    rcases (show b = 0 ∨ b = 1 ∨ b = 2 by omega) with rfl | rfl | rfl
    · exact ⟨.bounce, rfl⟩
    · exact ⟨.done, rfl⟩
    · exact ⟨.stay, rfl⟩
  simp -implicitDefEqProofs -dsimp [e2, g2]
  refine ev_notes s2 (by simp) hd2 fun l1 d3 n1 hd3 => ?_
  simp -implicitDefEqProofs -dsimp [g2]
  refine ev_notes s2 (by simp) hd3 fun l2 d4 n2 hd4 => ?_
  simp -implicitDefEqProofs -dsimp [putKD]
  generalize hd5 : D.lst [D.tup [.int 1, .int 1], .tup [.int 1, .int 2], .tup [.int 3, .int 1], .tup [.int 1, .int 1, .int 1], .tup [.int 2, .int 0, .int 1], .tup [.int 0, .int 1, .int 1], .tup [.int 1, .int 0, .int 0, .int 2], .tup [.int 1], .tup [.int 1, .int 2, .int 3], .tup [.int 5, .int 1]] = dd
  rw [show D.dct [((Sum.inr (Str.ofString "die") : Key), dieD die), (Sum.inr (Str.ofString "rule"), D.str rule.s), (Sum.inr (Str.ofString "near"), ntsD l1), (Sum.inr (Str.ofString "far"), ntsD l2)] = lawD ⟨die, rule, l1, l2⟩ from rfl]
  have nilE : D.tup [] = ntsD [] := rfl
  have doneE : D.str (Str.ofString "done") = D.str Rul.done.s := rfl
  have fs : ∀ r : Rc, RV r → f3.sem [lawD r] = some (.ret false (.bl (lawEndsB r (leastL r))) []) := s3
  have v0 : RV ⟨die, rule, l1, l2⟩ := rv_dice hdie n1 n2
  simp -implicitDefEqProofs -dsimp [g3]
  refine ev_call_flat (ds := [lawD ⟨die, rule, l1, l2⟩]) (by simp [m3]) (by simp) (fs _ v0) rfl ?_
  cases hE : lawEndsB ⟨die, rule, l1, l2⟩ (leastL ⟨die, rule, l1, l2⟩)
  · have v1 : RV ⟨die, rule, [], []⟩ := rv_dice hdie DN.nil DN.nil
    simp -implicitDefEqProofs -dsimp [hE, g3, nilE]
    refine ev_call_flat (ds := [lawD ⟨die, rule, [], []⟩]) (by simp [m3]) (by simp) (fs _ v1) rfl ?_
    cases hE1 : lawEndsB ⟨die, rule, [], []⟩ (leastL ⟨die, rule, [], []⟩)
    · simp -implicitDefEqProofs -dsimp [hE1, doneE]
      exact ⟨⟨die, .done, [], []⟩, ⟨hdie, DN.nil, DN.nil, done_ends (dice_vd _ hdie)⟩, hd4, rfl⟩
    · simp -implicitDefEqProofs -dsimp [hE1]
      exact ⟨⟨die, rule, [], []⟩, ⟨hdie, DN.nil, DN.nil, (ends_iff v1 (Int.le_refl _)).mp hE1⟩, hd4, rfl⟩
  · simp -implicitDefEqProofs -dsimp [hE, g3]
    refine ev_call_flat (ds := [lawD ⟨die, rule, l1, l2⟩]) (by simp [m3]) (by simp) (fs _ v0) rfl ?_
    simp -implicitDefEqProofs -dsimp [hE]
    exact ⟨⟨die, rule, l1, l2⟩, ⟨hdie, n1, n2, (ends_iff v0 (Int.le_refl _)).mp hE⟩, hd4, rfl⟩
/-! ### a race is made of what was drawn -/
def S_law_made (fi : FI) : Prop := fi.mask = [false] ∧ ∀ r : Rc, VD r.die → VN r.near → VN r.far → EndsOK r → fi.sem [lawD r] = some (.ret true (raceD r) [])
theorem law_made_ok {cf : Cfg} {F : Nat} (h : ∃ fi, cf.ini "Race" = some fi ∧ S_race_init fi) : S_law_made ⟨[false], run cf F [false] 1 m_law_made⟩ := by
  obtain ⟨f1, g1, m1, s1⟩ := h
  refine ⟨rfl, fun r vd vn vf e => ?_⟩
  apply fi_eq rfl
  simp -implicitDefEqProofs -dsimp [m_law_made, g1, law_die, law_rule, law_near, law_far]
  refine ev_newR (by simp [m1]) ⟨_, s1 r vd vn vf e, ?_⟩
  simp -implicitDefEqProofs -dsimp
end Rl

set_option Elab.async false
set_option linter.all false
set_option maxRecDepth 100000
set_option maxHeartbeats 4000000
/-! Pl Q: races looked at by a law. -/
namespace Rl
open PySem L2
inductive Pt where | die (l : List Int) | rule (l : Rul) | near (l : List Nt) | far (l : List Nt)
def Pt.d : Pt → D
  | .die l => .tup [.str "die", dieD l]
  | .rule l => .tup [.str "rule", .str l.s]
  | .near l => .tup [.str "near", ntsD l]
  | .far l => .tup [.str "far", ntsD l]
def setP (r : Rc) : Pt → Rc
  | .die l => { r with die := l }
  | .rule l => { r with rule := l }
  | .near l => { r with near := l }
  | .far l => { r with far := l }
theorem put_die {r : Rc} {l : List Int} : storeD (lawD r) (.str "die") (dieD l) = some (lawD { r with die := l }) := by
  simp [lawD, storeD, putKD]
def S_law_with (fi : FI) : Prop := fi.mask = [false, false] ∧ ∀ (r : Rc) (ps : List Pt), fi.sem [lawD r, .lst (ps.map Pt.d)] = some (.ret true (lawD (ps.foldl setP r)) [])
theorem law_with_ok {cf : Cfg} {F : Nat} : S_law_with ⟨[false, false], run cf F [false, false] 5 m_law_with⟩ := by
  refine ⟨rfl, fun r ps => ?_⟩
  apply fi_eq rfl
  have e1 : bltD .dict [lawD r] = some (.own (lawD r)) := rfl
  simp -implicitDefEqProofs -dsimp [m_law_with, e1]
  refine ev_frM_map (fun rem δ => ∃ r' x3 x4, δ = [some (.dat (lawD r)), some (.dat (.lst (ps.map Pt.d))), some (.own (lawD r')), x3, x4] ∧ rem.foldl setP r' = ps.foldl setP r) (by simp) ⟨r, none, none, rfl, rfl⟩ ?_ ?_
  · rintro p rem δ ⟨r', x3, x4, rfl, h⟩
    rw [List.foldl_cons] at h
    cases p with
    | die l =>
      refine ⟨_, by simp [Pt.d]; rfl, ?_⟩
      simp -implicitDefEqProofs -dsimp [put_die]
      exact ⟨_, rfl, h⟩
    | rule l =>
      refine ⟨_, by simp [Pt.d]; rfl, ?_⟩
      simp -implicitDefEqProofs -dsimp
      exact ⟨_, rfl, h⟩
    | near l =>
      refine ⟨_, by simp [Pt.d]; rfl, ?_⟩
      simp -implicitDefEqProofs -dsimp
      exact ⟨_, rfl, h⟩
    | far l =>
      refine ⟨_, by simp [Pt.d]; rfl, ?_⟩
      simp -implicitDefEqProofs -dsimp
      exact ⟨_, rfl, h⟩
  · rintro δ ⟨r', x3, x4, rfl, h⟩
    rw [List.foldl_nil] at h
    subst h
    simp -implicitDefEqProofs -dsimp
theorem eq_law {r r' : Rc} : ∃ a b, lawD r = .dct a ∧ lawD r' = .dct b ∧ eqDct a b = some (decide (r = r')) := by
  refine ⟨_, _, rfl, rfl, ?_⟩
  have key : decide (r = r') = (decide (r.die = r'.die) && (decide (r.rule = r'.rule) && (decide (r.near = r'.near) && decide (r.far = r'.far)))) := by
    rw [Bool.eq_iff_iff]
    cases r; cases r'
    simp
  rw [key]
  simp [eqDct, eqKs, getK, eq_die, eq_rul, eq_nts]
theorem ev_ss_app {cf : Cfg} {F : Nat} {keep : Nat → Bool} {X : XX} {Q : Fl → Env → Prop} : ∀ {a b : List MS} {δ : Env}, Ev (evSs cf F keep (a ++ b)) δ Q X = Ev (evSs cf F keep a) δ (seqK cf F keep b Q X) X
  | [], b, δ => rfl
  | s :: a, b, δ => by
    rw [List.cons_append, ev_ss_cons, ev_ss_cons]
    apply ev_cq
    intro fl δ
    cases fl with
    | nx => exact ev_ss_app
    | rt v => rfl
section
variable {cf : Cfg} {δ : Env} {X : XX} {Q : R → Env → Prop} {x y : R} {r r' : Rc} {fi : FI}
theorem cmp_law (hx : vw δ x = some (lawD r)) (hy : vw δ y = some (lawD r')) (q : Q (.dat (.bl (decide (r = r')))) δ) : Ev (cmpR cf .eq x y) δ Q X := by
  obtain ⟨a, b, e1, e2, e3⟩ := eq_law (r := r) (r' := r')
  unfold Ev cmpR
  rw [hx, hy, e1, e2]
  dsimp only
  rw [e3]
  exact q
theorem cmp_race (hm : cf.mth "Race" "__eq__" = some fi) (h : S_race_eq fi) (hx : vw δ x = some (raceD r)) (hy : vw δ y = some (raceD r')) (q : Q (.dat (.bl (decide (r = r')))) δ) : Ev (cmpR cf .eq x y) δ Q X := by
  have hc : callPure fi [x, y] δ = some (.ok (.dat (.bl (decide (r = r')))) δ) := by
    unfold callPure
    rw [h.1]
    simp [hx, hy, h.2]
  unfold Ev cmpR
  rw [hx, hy]
  unfold raceD
  dsimp only
  rw [hm]
  simp only [decide_true]
  rw [hc]
  exact q
theorem cmp_race_ne (hm : cf.mth "Race" "__eq__" = some fi) (h : S_race_eq fi) (hx : vw δ x = some (raceD r)) (hy : vw δ y = some (raceD r')) (q : Q (.dat (.bl (!decide (r = r')))) δ) : Ev (cmpR cf .ne x y) δ Q X := by
  have hc : callPure fi [x, y] δ = some (.ok (.dat (.bl (decide (r = r')))) δ) := by
    unfold callPure
    rw [h.1]
    simp [hx, hy, h.2]
  unfold Ev cmpR
  rw [hx, hy]
  unfold raceD
  dsimp only
  rw [hm]
  simp only [decide_true]
  rw [hc]
  exact q
def S_race_eqL (fi : FI) : Prop := ∀ (r : Rc) (l : List D), fi.sem [raceD r, .lst l] = some (.ret false (.bl false) [])
theorem race_eqL_ok {cf : Cfg} {F : Nat} : S_race_eqL ⟨[false, false], run cf F [false, false] 2 m_Race_eq⟩ := by
  intro r l
  apply fi_eq rfl
  simp -implicitDefEqProofs -dsimp [m_Race_eq, isiD, tyD]
theorem cmp_race_lst {l : List D} (hm : cf.mth "Race" "__eq__" = some fi) (h : S_race_eq fi) (hl : S_race_eqL fi) (hx : vw δ x = some (raceD r)) (hy : vw δ y = some (.lst l)) (q : Q (.dat (.bl true)) δ) : Ev (cmpR cf .ne x y) δ Q X := by
  have hc : callPure fi [x, y] δ = some (.ok (.dat (.bl false)) δ) := by
    unfold callPure
    rw [h.1]
    simp [hx, hy, hl r l]
  unfold Ev cmpR
  rw [hx, hy]
  unfold raceD
  dsimp only
  rw [hm]
  dsimp only
  rw [hc]
  exact q
theorem att_prop {f : Str} {v : Rc → D} (hp : cf.prp "Race" f = some fi) (h : S_prop fi v) (hx : vw δ x = some (raceD r)) (q1 : flatD (v r) = true → Q (.dat (v r)) δ) (q2 : flatD (v r) = false → Q (.dat (v r)) (frz δ [x])) : attK cf f x δ Q X (some (raceD r)) := by
  unfold attK raceD
  dsimp only
  rw [hp]
  dsimp only
  rw [ev_noX]
  cases hf : flatD (v r)
  · exact ev_call_frz (ds := [raceD r]) (by rw [h.1]; rfl) (by simp [hx]) (h.2 r) hf (q2 hf)
  · exact ev_call_flat (ds := [raceD r]) (by rw [h.1]; rfl) (by simp [hx]) (h.2 r) hf (q1 hf)
theorem att_least (hp : cf.prp "Race" "least_length" = some fi) (h : S_least fi) (v : RV r) (hx : vw δ x = some (raceD r)) (q : Q (.dat (.int (leastL r))) δ) : attK cf "least_length" x δ Q X (some (raceD r)) := by
  unfold attK raceD
  dsimp only
  rw [hp]
  dsimp only
  rw [ev_noX]
  exact ev_call_flat (ds := [raceD r]) (by rw [h.1]; rfl) (by simp [hx]) (h.2 r v) rfl q
end
end Rl

set_option Elab.async false
set_option linter.all false
set_option maxRecDepth 100000
set_option maxHeartbeats 4000000
/-! Pl R: what a list of entries knows. -/
namespace Rl
open PySem L2
def lookS (cf : Cfg) : Slot → Option FI
  | .fn x => cf.fns x
  | .ini c => cf.ini c
  | .prp c f => cf.prp c f
  | .mth c m => cf.mth c m
def KnS (cf : Cfg) (s : Slot) (S : FI → Prop) : Prop := ∃ fi, lookS cf s = some fi ∧ S fi
theorem lookS_add {cf : Cfg} {s s' : Slot} {fi : FI} (h : s' ≠ s) : lookS (addE cf s' fi) s = lookS cf s := by
  cases s <;> cases s' <;> first
    | rfl
    | (rename_i a b; exact if_neg (fun e => h (by rw [e])))
    | (rename_i a b c d; exact if_neg (fun e => h (by rw [e.1, e.2])))
theorem lookS_same {cf : Cfg} {s : Slot} {fi : FI} : lookS (addE cf s fi) s = some fi := by
  cases s
  · exact if_pos rfl
  · exact if_pos rfl
  · exact if_pos ⟨rfl, rfl⟩
  · exact if_pos ⟨rfl, rfl⟩
theorem lookS_of {F : Nat} {s : Slot} : ∀ {es : List Ent} {cf : Cfg}, es.all (fun e => decide (e.slot ≠ s)) = true → lookS (cfgOf cf F es) s = lookS cf s
  | [], _, _ => rfl
  | e :: es, cf, h => by
    rw [List.all_cons, Bool.and_eq_true] at h
    show lookS (cfgOf (e.add cf F) F es) s = _
    rw [lookS_of h.2]
    exact lookS_add (of_decide_eq_true h.1)
theorem cfgOf_app {F : Nat} : ∀ {a b : List Ent} {cf : Cfg}, cfgOf cf F (a ++ b) = cfgOf (cfgOf cf F a) F b
  | [], _, _ => rfl
  | e :: a, b, cf => cfgOf_app (a := a) (cf := e.add cf F)
theorem kn_of {cf : Cfg} {F : Nat} {s : Slot} {S : FI → Prop} (pre post : List Ent) (e : Ent) (hs : e.slot = s) (hS : S (e.fi (cfgOf cf F pre) F)) (hp : post.all (fun e => decide (e.slot ≠ s)) = true) : KnS (cfgOf cf F (pre ++ e :: post)) s S := by
  refine ⟨_, ?_, hS⟩
  rw [cfgOf_app]
  show lookS (cfgOf (e.add (cfgOf cf F pre) F) F post) s = _
  rw [lookS_of hp]
  subst hs
  exact lookS_same
theorem cfgOf_glb {F : Nat} : ∀ {es : List Ent} {cf : Cfg}, (cfgOf cf F es).glb = cf.glb
  | [], _ => rfl
  | e :: es, cf => by
    show (cfgOf (e.add cf F) F es).glb = cf.glb
    rw [cfgOf_glb]
    unfold Ent.add addE
    cases e.slot <;> rfl
theorem cfC_of {cf : Cfg} {F : Nat} {es : List Ent} (c : CfC cf) : CfC (cfgOf cf F es) := by
  have e := cfgOf_glb (F := F) (es := es) (cf := cf)
  exact ⟨by rw [e]; exact c.mf, by rw [e]; exact c.ms, by rw [e]; exact c.mp, by rw [e]; exact c.mw, by rw [e]; exact c.ru, by rw [e]; exact c.go, by rw [e]; exact c.wa⟩
def raceSl : List Slot := [.prp "Race" "shares", .prp "Race" "word", .prp "Race" "starts", .prp "Race" "tails", .prp "Race" "chances", .prp "Race" "goes", .prp "Race" "pauses"]
theorem cfR_of {cf : Cfg} {F : Nat} {es : List Ent} (c : CfR cf) (h : raceSl.all (fun s => es.all (fun e => decide (e.slot ≠ s))) = true) : CfR (cfgOf cf F es) := by
  have key : ∀ s ∈ raceSl, lookS (cfgOf cf F es) s = lookS cf s := fun s hs => lookS_of (List.all_eq_true.mp h s hs)
  constructor
  · rw [cfgOf_flds]; exact c.flds
  · exact (key (.prp "Race" "shares") (by simp [raceSl])).trans c.p1
  · exact (key (.prp "Race" "word") (by simp [raceSl])).trans c.p2
  · exact (key (.prp "Race" "starts") (by simp [raceSl])).trans c.p3
  · exact (key (.prp "Race" "tails") (by simp [raceSl])).trans c.p4
  · exact (key (.prp "Race" "chances") (by simp [raceSl])).trans c.p5
  · exact (key (.prp "Race" "goes") (by simp [raceSl])).trans c.p6
  · exact (key (.prp "Race" "pauses") (by simp [raceSl])).trans c.p7
theorem isSome_kn {cf : Cfg} {x : String} {S : FI → Prop} (h : Kn cf x S) : (cf.fns x).isSome = true := by
  obtain ⟨fi, h, _⟩ := h
  rw [h]
  rfl
end Rl

set_option Elab.async false
set_option linter.all false
set_option maxRecDepth 100000
set_option maxHeartbeats 4000000
/-! Pl S: values that are no dice, no notes. -/
namespace Rl
open PySem L2
/-- a comprehension over things as they are -/
theorem ev_lc_id {α : Type} {δ : Env} {X : XX} {turn : D → M (Option α)} {vs : List Nat} {l : List D} {Q : List α → Env → Prop} (g : D → α) (ho : vs.any (ownAt δ) = false)
    (h : ∀ x ∈ l, Ev (turn x) (wipeD δ vs) (fun o δ' => o = some (g x) ∧ wipeD δ' vs = wipeD δ vs) nox) (q : Q (l.map g) δ) : Ev (comp turn vs l) δ Q X := by
  have := ev_lc_map (f := id) (xs := l) (turn := turn) (vs := vs) (X := X) (Q := Q) g ho h q
  rwa [List.map_id] at this
def oddDice : List D := [.non, .tup [], .lst [.int 1], .tup [.int 0], .tup [.int 1, .int 0], .tup [.int 0, .int 1], .tup [.int 0, .int 1, .int 0, .int 1], .tup [.int 1, .int 100], .tup [.int 1, .int (-1)], .tup [.bl true], .tup [.str "1"],
  .tup [.int 1, .int 1, .int 1, .int 1, .int 1, .int 1, .int 1], .int 1, .tup [.int 0, .int 0, .int 5], .str "die", .tup [.int 1, .non]]
def S_is_dieO (fi : FI) : Prop := fi.mask = [false] ∧ ∀ d ∈ oddDice, fi.sem [d] = some (.ret false (.bl false) [])
theorem is_dieO_ok {cf : Cfg} {F : Nat} (c : CfC cf) (h1 : Kn cf "is_within" S_is_within) (h2 : Kn cf "common" S_common) : S_is_dieO ⟨[false], run cf F [false] 4 m_is_die⟩ := by
  obtain ⟨f1, g1, m1, s1⟩ := h1
  obtain ⟨f2, g2, m2, s2⟩ := h2
  refine ⟨rfl, fun d hd => ?_⟩
  have cm : ∀ (a b : Int), a.natAbs < 100 → b.natAbs < 100 → ∀ {δ : Env} {Q : R → Env → Prop} {X : XX}, Q (.dat (.int (Nat.gcd a.natAbs b.natAbs : Nat))) δ → Ev (callR f2 [.dat (.int a), .dat (.int b)]) δ Q X := by
    intro a b ha hb δ Q X q
    refine ev_call_flat (ds := [.int a, .int b]) (by simp [m2]) (by simp) (s2 a b ?_ (log2_small (by omega))) rfl q
    have := log2_small (n := a.natAbs) (by omega)
    omega
  simp only [oddDice, List.mem_cons, List.not_mem_nil, or_false] at hd
  rcases hd with rfl | rfl | rfl | rfl | rfl | rfl | rfl | rfl | rfl | rfl | rfl | rfl | rfl | rfl | rfl | rfl
  all_goals
    apply fi_eq rfl
    simp -implicitDefEqProofs -dsimp [m_is_die, isiD, tyN, tyD, c.mf, c.ms]
  all_goals
    refine ev_lc_id (fun d => .bl (inB 0 99 d)) (by simp) (fun s hs => ?_) ?_
    · have hty := (by decide : ∀ s ∈ _, (tyD s).isSome = true) s hs
      simp -implicitDefEqProofs -dsimp [ev_lcTurn, g1, c.ms]
      refine ev_call_flat (ds := [s, .int 0, .int 99]) (by simp [m1]) (by simp) (s1 _ _ _ hty) rfl ?_
      simp -implicitDefEqProofs -dsimp
    · simp -implicitDefEqProofs -dsimp [bltD, blsD, inB, at_last, enumD]
      repeat
        rw [ev_frM_cons]
        simp -implicitDefEqProofs -dsimp [g2]
        try refine cm _ _ (by decide) (by decide) ?_
        try simp -implicitDefEqProofs -dsimp
      try rw [ev_frM_nil]
      try simp -implicitDefEqProofs -dsimp
/-- three things as a note -/
def n3 (a b c : D) : D := .tup [a, b, c]
def oddNote : List D := [n3 (.int 0) (.str "wait") (.int 1), n3 (.int 7) (.str "go") (.int 1), n3 (.int 1) (.str "wait") (.int 0), n3 (.int 1) (.str "wait") (.int 4), n3 (.int 1) (.str "go") (.int 7), n3 (.int 1) (.str "Go") (.int 2), .tup [.int 1, .str "go"], .non, .lst [.int 1, .str "go", .int 2],
  n3 (.bl true) (.str "wait") (.int 1), n3 (.int 1) (.str "go") (.bl true), n3 (.int 1) (.int 2) (.str "go"), n3 (.int 1) (.str "wait") (.str "1"), .int 1, .str "go", .int 2]
def S_is_noteO (fi : FI) : Prop := fi.mask = [false] ∧ ∀ d ∈ oddNote, fi.sem [d] = some (.ret false (.bl false) [])
theorem is_noteO_ok {cf : Cfg} {F : Nat} (c : CfC cf) (h : Kn cf "is_within" S_is_within) : S_is_noteO ⟨[false], run cf F [false] 1 m_is_note⟩ := by
  obtain ⟨fi, hf, hm, hs⟩ := h
  refine ⟨rfl, fun d hd => ?_⟩
  have cm : ∀ (d : D) (a b : Int), (tyD d).isSome = true → ∀ {δ : Env} {Q : R → Env → Prop} {X : XX}, Q (.dat (.bl (inB a b d))) δ → Ev (callR fi [.dat d, .dat (.int a), .dat (.int b)]) δ Q X := by
    intro d a b hd δ Q X q
    exact ev_call_flat (ds := [d, .int a, .int b]) (by simp [hm]) (by simp) (hs d a b hd) rfl q
  have q1 : eqD (.str "wait") (.str "wait") = some true := by decide +kernel
  have q2 : eqD (.str "go") (.str "wait") = some false := by decide +kernel
  have q3 : eqD (.str "Go") (.str "wait") = some false := by decide +kernel
  have q4 : eqD (.str "go") (.str "go") = some true := by decide +kernel
  have q5 : eqD (.str "Go") (.str "go") = some false := by decide +kernel
  simp only [oddNote, List.mem_cons, List.not_mem_nil, or_false] at hd
  rcases hd with rfl | rfl | rfl | rfl | rfl | rfl | rfl | rfl | rfl | rfl | rfl | rfl | rfl | rfl | rfl | rfl
  all_goals
    apply fi_eq rfl
    simp -implicitDefEqProofs -dsimp [m_is_note, n3, isiD, tyN, tyD, c.mp, c.mw, c.wa, c.go, hf]
    repeat
      refine cm _ _ _ (by decide) ?_
      simp -implicitDefEqProofs -dsimp [inB, hf, isiD, tyN, tyD, c.mp, c.mw, c.wa, c.go, q1, q2, q3, q4, q5]
def oddNotes : List D := [.non,
  .lst [],
  .int 0,
  .str "near",
  .tup [n3 (.int 0) (.str "wait") (.int 1)],
  .tup [n3 (.int 7) (.str "go") (.int 1)],
  .tup [n3 (.int 1) (.str "wait") (.int 0)],
  .tup [n3 (.int 1) (.str "wait") (.int 4)],
  .tup [n3 (.int 1) (.str "go") (.int 1)],
  .tup [n3 (.int 1) (.str "go") (.int 7)],
  .tup [n3 (.int 2) (.str "go") (.int 0), n3 (.int 1) (.str "go") (.int 0)],
  .tup [n3 (.int 1) (.str "go") (.int 2), n3 (.int 2) (.str "wait") (.int 1)],
  .tup [n3 (.int 1) (.str "wait") (.int 1), n3 (.int 1) (.str "wait") (.int 1)],
  .tup [n3 (.int 1) (.str "Go") (.int 2)],
  .tup [.tup [.int 1, .str "go"]],
  .tup [.non],
  .tup [.lst [.int 1, .str "go", .int 2]],
  .tup [n3 (.bl true) (.str "wait") (.int 1)],
  .tup [n3 (.int 1) (.str "go") (.bl true)],
  .tup [n3 (.int 1) (.int 2) (.str "go")],
  .tup [n3 (.int 1) (.str "wait") (.str "1")],
  .tup [.int 1, .str "go", .int 2]]
def goodNote : List Nt := [⟨1, true, 1⟩, ⟨2, true, 0⟩, ⟨1, true, 0⟩, ⟨1, true, 2⟩, ⟨2, false, 1⟩, ⟨1, false, 1⟩]
def S_are_notesO (fi : FI) : Prop := fi.mask = [false] ∧ ∀ d ∈ oddNotes, fi.sem [d] = some (.ret false (.bl false) [])
def pkN (p : Bool × Nat) : D := if p.1 then (goodNote.getD p.2 ⟨1, true, 1⟩).d else oddNote.getD p.2 .non
theorem are_notesO_ok {cf : Cfg} {F : Nat} (c : CfC cf) (h : ∃ fi, cf.fns "is_note" = some fi ∧ S_is_note fi ∧ S_is_noteO fi) : S_are_notesO ⟨[false], run cf F [false] 5 m_are_notes⟩ := by
  obtain ⟨fi, hf, ⟨hm, hs⟩, _, ho⟩ := h
  refine ⟨rfl, fun d hd => ?_⟩
  have ca : ∀ (p : Bool × Nat), (p.1 = false → p.2 < 16) → ∀ {δ : Env} {Q : R → Env → Prop} {X : XX}, Q (.dat (.bl p.1)) δ → Ev (callR fi [.dat (pkN p)]) δ Q X := by
    intro p hp δ Q X q
    obtain ⟨b, i⟩ := p
    cases b with
    | false =>
      have hi := hp rfl
      refine ev_call_flat (ds := [pkN (false, i)]) (by simp [hm]) (by simp) (ho _ ?_) rfl q
      show oddNote.getD i .non ∈ oddNote
      rw [List.getD_eq_getElem?_getD, List.getElem?_eq_getElem (by exact hi)]
      exact List.getElem_mem _
    | true =>
      have hx : ∀ x ∈ goodNote, 1 ≤ x.p ∧ x.p ≤ 6 ∧ (x.g = true → 0 ≤ x.n ∧ x.n ≤ 6) ∧ (x.g = false → 1 ≤ x.n ∧ x.n ≤ 3) := by decide
      have hb : ∀ i, 1 ≤ (goodNote.getD i ⟨1, true, 1⟩).p ∧ (goodNote.getD i ⟨1, true, 1⟩).p ≤ 6 ∧ ((goodNote.getD i ⟨1, true, 1⟩).g = true → 0 ≤ (goodNote.getD i ⟨1, true, 1⟩).n ∧ (goodNote.getD i ⟨1, true, 1⟩).n ≤ 6) ∧ ((goodNote.getD i ⟨1, true, 1⟩).g = false → 1 ≤ (goodNote.getD i ⟨1, true, 1⟩).n ∧ (goodNote.getD i ⟨1, true, 1⟩).n ≤ 3) := by
        intro i
        rw [List.getD_eq_getElem?_getD]
        cases e : goodNote[i]? with
        | none => simp
        | some x => exact hx x (List.mem_of_getElem? e)
      have hb := hb i
      exact ev_call_flat (ds := [pkN (true, i)]) (by simp [hm]) (by simp) (hs _ hb.1 hb.2.1 hb.2.2.1 hb.2.2.2) rfl q
  have lc : ∀ (ps : List (Bool × Nat)), (∀ p ∈ ps, p.1 = false → p.2 < 16) → ∀ {x0 x1 x2 x3 x4 : Option B} {Q : List D → Env → Prop} {X : XX}, ([2] : List Nat).any (ownAt [x0, x1, x2, x3, x4]) = false → Q (ps.map fun p => .bl p.1) [x0, x1, x2, x3, x4] →
      Ev (comp (lcTurn (.one 2) (evC cf []) (evE cf (.cal "is_note" [(.var 2)]))) [2] (ps.map pkN)) [x0, x1, x2, x3, x4] Q X := by
    intro ps hp x0 x1 x2 x3 x4 Q X hw q
    refine ev_lc_map (fun p => .bl p.1) hw (fun p hm => ?_) q
    simp -implicitDefEqProofs -dsimp [ev_lcTurn, hf]
    refine ca p (hp p hm) ?_
    simp -implicitDefEqProofs -dsimp
  have q4 : eqD (.str "go") (.str "go") = some true := by decide +kernel
  have q2 : eqD (.str "wait") (.str "go") = some false := by decide +kernel
  have i1 : inD (.int 1) [.int 1] = some true := by decide +kernel
  have i2 : inD (.int 2) [.int 1, .int 2] = some true := by decide +kernel
  have o1 : oneInt [D.int 1] = some (some 1) := rfl
  have o2 : oneInt [] = some none := rfl
  have t1 : ∀ a : D, slcD (.lst [a]) (some 1) none = some (.own (.lst [])) := fun a => rfl
  have t2 : ∀ a b : D, slcD (.lst [a, b]) (some 1) none = some (.own (.lst [b])) := fun a b => rfl
  have z1 : ∀ a : D, zipL [.lst [a], .lst []] = some [] := fun a => rfl
  have z2 : ∀ a b c : D, zipL [.lst [a, b], .lst [c]] = some [.tup [a, c]] := fun a b c => rfl
  simp only [oddNotes, List.mem_cons, List.not_mem_nil, or_false] at hd
  rcases hd with rfl | rfl | rfl | rfl | rfl | rfl | rfl | rfl | rfl | rfl | rfl | rfl | rfl | rfl | rfl | rfl | rfl | rfl | rfl | rfl | rfl | rfl
  all_goals
    apply fi_eq rfl
    simp -implicitDefEqProofs -dsimp [m_are_notes, isiD, tyN, tyD, hf]
  · refine lc [(false, 0)] (by decide) (by simp) ?_
    simp -implicitDefEqProofs -dsimp [bltD, blsD]
  · refine lc [(false, 1)] (by decide) (by simp) ?_
    simp -implicitDefEqProofs -dsimp [bltD, blsD]
  · refine lc [(false, 2)] (by decide) (by simp) ?_
    simp -implicitDefEqProofs -dsimp [bltD, blsD]
  · refine lc [(false, 3)] (by decide) (by simp) ?_
    simp -implicitDefEqProofs -dsimp [bltD, blsD]
  · refine lc [(true, 0)] (by decide) (by simp) ?_
    simp -implicitDefEqProofs -dsimp [bltD, blsD]
    refine ev_lc_id (fun d => match d with | .tup (a :: _) => a | _ => .non) (by simp) (fun s hs => ?_) ?_
    · simp only [List.mem_cons, List.not_mem_nil, or_false] at hs
      first | (rcases hs with rfl | rfl <;> simp -implicitDefEqProofs -dsimp [ev_lcTurn, n3]) | (subst hs; simp -implicitDefEqProofs -dsimp [ev_lcTurn, n3])
    · simp -implicitDefEqProofs -dsimp [n3, o1, o2, t1, t2, z1, z2]
      refine ev_lc_id (fun d => match d with | .tup [.int i, .int j] => .bl (decide (i < j)) | _ => .non) (by simp) (fun s hs => ?_) ?_
      · first | (cases hs; done) | (rw [List.mem_singleton.mp hs]; simp -implicitDefEqProofs -dsimp [ev_lcTurn])
      · simp -implicitDefEqProofs -dsimp [bltD, blsD]
        refine ev_lc_id (fun d => match d with | .tup [_, .str w, _] => .bl (decide (w = "go")) | _ => .non) (by simp) (fun s hs => ?_) ?_
        · simp only [List.mem_cons, List.not_mem_nil, or_false] at hs
          first | (rcases hs with rfl | rfl <;> simp -implicitDefEqProofs -dsimp [ev_lcTurn, c.go, q2, q4, i1, i2, cmpD]) | (subst hs; simp -implicitDefEqProofs -dsimp [ev_lcTurn, c.go, q4, i1, i2, cmpD])
        · simp -implicitDefEqProofs -dsimp [bltD, blsD]
  · refine lc [(false, 4)] (by decide) (by simp) ?_
    simp -implicitDefEqProofs -dsimp [bltD, blsD]
  · refine lc [(true, 1), (true, 2)] (by decide) (by simp) ?_
    simp -implicitDefEqProofs -dsimp [bltD, blsD]
    refine ev_lc_id (fun d => match d with | .tup (a :: _) => a | _ => .non) (by simp) (fun s hs => ?_) ?_
    · simp only [List.mem_cons, List.not_mem_nil, or_false] at hs
      first | (rcases hs with rfl | rfl <;> simp -implicitDefEqProofs -dsimp [ev_lcTurn, n3]) | (subst hs; simp -implicitDefEqProofs -dsimp [ev_lcTurn, n3])
    · simp -implicitDefEqProofs -dsimp [n3, o1, o2, t1, t2, z1, z2]
      refine ev_lc_id (fun d => match d with | .tup [.int i, .int j] => .bl (decide (i < j)) | _ => .non) (by simp) (fun s hs => ?_) ?_
      · first | (cases hs; done) | (rw [List.mem_singleton.mp hs]; simp -implicitDefEqProofs -dsimp [ev_lcTurn])
      · simp -implicitDefEqProofs -dsimp [bltD, blsD]

  · refine lc [(true, 3), (true, 4)] (by decide) (by simp) ?_
    simp -implicitDefEqProofs -dsimp [bltD, blsD]
    refine ev_lc_id (fun d => match d with | .tup (a :: _) => a | _ => .non) (by simp) (fun s hs => ?_) ?_
    · simp only [List.mem_cons, List.not_mem_nil, or_false] at hs
      first | (rcases hs with rfl | rfl <;> simp -implicitDefEqProofs -dsimp [ev_lcTurn, n3]) | (subst hs; simp -implicitDefEqProofs -dsimp [ev_lcTurn, n3])
    · simp -implicitDefEqProofs -dsimp [n3, o1, o2, t1, t2, z1, z2]
      refine ev_lc_id (fun d => match d with | .tup [.int i, .int j] => .bl (decide (i < j)) | _ => .non) (by simp) (fun s hs => ?_) ?_
      · first | (cases hs; done) | (rw [List.mem_singleton.mp hs]; simp -implicitDefEqProofs -dsimp [ev_lcTurn])
      · simp -implicitDefEqProofs -dsimp [bltD, blsD]
        refine ev_lc_id (fun d => match d with | .tup [_, .str w, _] => .bl (decide (w = "go")) | _ => .non) (by simp) (fun s hs => ?_) ?_
        · simp only [List.mem_cons, List.not_mem_nil, or_false] at hs
          first | (rcases hs with rfl | rfl <;> simp -implicitDefEqProofs -dsimp [ev_lcTurn, c.go, q2, q4, i1, i2, cmpD]) | (subst hs; simp -implicitDefEqProofs -dsimp [ev_lcTurn, c.go, q4, i1, i2, cmpD])
        · simp -implicitDefEqProofs -dsimp [bltD, blsD]
  · refine lc [(true, 5), (true, 5)] (by decide) (by simp) ?_
    simp -implicitDefEqProofs -dsimp [bltD, blsD]
    refine ev_lc_id (fun d => match d with | .tup (a :: _) => a | _ => .non) (by simp) (fun s hs => ?_) ?_
    · simp only [List.mem_cons, List.not_mem_nil, or_false] at hs
      first | (rcases hs with rfl | rfl <;> simp -implicitDefEqProofs -dsimp [ev_lcTurn, n3]) | (subst hs; simp -implicitDefEqProofs -dsimp [ev_lcTurn, n3])
    · simp -implicitDefEqProofs -dsimp [n3, o1, o2, t1, t2, z1, z2]
      refine ev_lc_id (fun d => match d with | .tup [.int i, .int j] => .bl (decide (i < j)) | _ => .non) (by simp) (fun s hs => ?_) ?_
      · first | (cases hs; done) | (rw [List.mem_singleton.mp hs]; simp -implicitDefEqProofs -dsimp [ev_lcTurn])
      · simp -implicitDefEqProofs -dsimp [bltD, blsD]

  · refine lc [(false, 5)] (by decide) (by simp) ?_
    simp -implicitDefEqProofs -dsimp [bltD, blsD]
  · refine lc [(false, 6)] (by decide) (by simp) ?_
    simp -implicitDefEqProofs -dsimp [bltD, blsD]
  · refine lc [(false, 7)] (by decide) (by simp) ?_
    simp -implicitDefEqProofs -dsimp [bltD, blsD]
  · refine lc [(false, 8)] (by decide) (by simp) ?_
    simp -implicitDefEqProofs -dsimp [bltD, blsD]
  · refine lc [(false, 9)] (by decide) (by simp) ?_
    simp -implicitDefEqProofs -dsimp [bltD, blsD]
  · refine lc [(false, 10)] (by decide) (by simp) ?_
    simp -implicitDefEqProofs -dsimp [bltD, blsD]
  · refine lc [(false, 11)] (by decide) (by simp) ?_
    simp -implicitDefEqProofs -dsimp [bltD, blsD]
  · refine lc [(false, 12)] (by decide) (by simp) ?_
    simp -implicitDefEqProofs -dsimp [bltD, blsD]
  · refine lc [(false, 13), (false, 14), (false, 15)] (by decide) (by simp) ?_
    simp -implicitDefEqProofs -dsimp [bltD, blsD]
end Rl

set_option Elab.async false
set_option linter.all false
set_option maxRecDepth 100000
set_option maxHeartbeats 4000000
/-! Pl U: a race is refused. -/
namespace Rl
open PySem L2
def oddRules : List D := [.non, .str "", .str "Done", .int 0, .str "lets", .tup [.str "done"], .bl true]
/-- the errors' classes that a race's making raises -/
structure CfX (cf : Cfg) : Prop where
  xd : cf.exc "InvalidDie" = some []
  xr : cf.exc "InvalidRule" = some []
  xp : cf.exc "InvalidPlaces" = some (["kind"] : List Str)
  xe : cf.exc "NoEnd" = some []
@[simp] theorem excF_nil : excF [] [] = some [] := rfl
@[simp] theorem excF_one {f : Str} {d : D} : excF [f] [d] = some [(f, d)] := rfl
structure S_race_initX (fi : FI) : Prop where
  mask : fi.mask = [true, false, false, false, false]
  die : ∀ d rule near far, d ∈ oddDice → fi.sem [.ins "Race" [], d, rule, near, far] = some (.ex "InvalidDie" [] [.ins "Race" []])
  rule : ∀ die rule near far, VD die → rule ∈ oddRules → fi.sem [.ins "Race" [], dieD die, rule, near, far] = some (.ex "InvalidRule" [] [.ins "Race" []])
  near : ∀ die (r : Rul) near far, VD die → near ∈ oddNotes → fi.sem [.ins "Race" [], dieD die, .str r.s, near, far] = some (.ex "InvalidPlaces" [("kind", .str "near")] [.ins "Race" []])
  far : ∀ die (r : Rul) near far, VD die → VN near → far ∈ oddNotes → fi.sem [.ins "Race" [], dieD die, .str r.s, ntsD near, far] = some (.ex "InvalidPlaces" [("kind", .str "far")] [.ins "Race" []])
theorem race_initX_ok {cf : Cfg} {F : Nat} (c : CfC cf) (cr : CfR cf) (x : CfX cf) (h1 : ∃ fi, cf.fns "is_die" = some fi ∧ S_is_die fi ∧ S_is_dieO fi) (h2 : ∃ fi, cf.fns "are_notes" = some fi ∧ S_are_notes fi ∧ S_are_notesO fi) :
    S_race_initX ⟨[true, false, false, false, false], run cf F [true, false, false, false, false] 9 m_Race_init⟩ := by
  obtain ⟨f1, g1, ⟨m1, s1⟩, _, o1⟩ := h1
  obtain ⟨f2, g2, ⟨m2, s2⟩, _, o2⟩ := h2
  have cD : ∀ (d : D) (b : Bool), f1.sem [d] = some (.ret false (.bl b) []) → ∀ {δ : Env} {Q : R → Env → Prop} {X : XX}, Q (.dat (.bl b)) δ → Ev (callR f1 [.dat d]) δ Q X := fun d b hs δ Q X q =>
    ev_call_flat (ds := [d]) (by simp [m1]) (by simp) hs rfl q
  have cN : ∀ (d : D) (b : Bool), f2.sem [d] = some (.ret false (.bl b) []) → ∀ {δ : Env} {Q : R → Env → Prop} {X : XX}, Q (.dat (.bl b)) δ → Ev (callR f2 [.dat d]) δ Q X := fun d b hs δ Q X q =>
    ev_call_flat (ds := [d]) (by simp [m2]) (by simp) hs rfl q
  refine ⟨rfl, fun d rule near far hd => ?_, fun die rule near far vd hr => ?_, fun die r near far vd hn => ?_, fun die r near far vd vn hn => ?_⟩
  · apply fi_eq rfl
    simp -implicitDefEqProofs -dsimp [m_Race_init, g1]
    refine cD _ _ (o1 _ hd) ?_
    simp -implicitDefEqProofs -dsimp [x.xd]
  · apply fi_eq rfl
    simp -implicitDefEqProofs -dsimp [m_Race_init, g1]
    refine cD _ _ (s1 _ vd) ?_
    simp only [oddRules, List.mem_cons, List.not_mem_nil, or_false] at hr
    have i1 : inD (.str "") [.str "bounce", .str "done", .str "stay"] = some false := by decide +kernel
    have i2 : inD (.str "Done") [.str "bounce", .str "done", .str "stay"] = some false := by decide +kernel
    have i3 : inD (.str "lets") [.str "bounce", .str "done", .str "stay"] = some false := by decide +kernel
    rcases hr with rfl | rfl | rfl | rfl | rfl | rfl | rfl <;> simp -implicitDefEqProofs -dsimp [isiD, tyD, tyN, c.ru, i1, i2, i3, x.xr]
  · apply fi_eq rfl
    simp -implicitDefEqProofs -dsimp [m_Race_init, g1]
    refine cD _ _ (s1 _ vd) ?_
    simp -implicitDefEqProofs -dsimp [isiD, tyD, tyN, c.ru, in_rules]
    rw [ev_frM_cons]
    simp -implicitDefEqProofs -dsimp [g2]
    refine cN _ _ (o2 _ hn) ?_
    simp -implicitDefEqProofs -dsimp [x.xp]
  · apply fi_eq rfl
    simp -implicitDefEqProofs -dsimp [m_Race_init, g1]
    refine cD _ _ (s1 _ vd) ?_
    simp -implicitDefEqProofs -dsimp [isiD, tyD, tyN, c.ru, in_rules]
    rw [ev_frM_cons]
    simp -implicitDefEqProofs -dsimp [g2]
    refine cN _ _ (s2 _ vn) ?_
    simp -implicitDefEqProofs -dsimp
    rw [ev_frM_cons]
    simp -implicitDefEqProofs -dsimp [g2]
    refine cN _ _ (o2 _ hn) ?_
    simp -implicitDefEqProofs -dsimp [x.xp]
def S_race_initE (fi : FI) : Prop := fi.mask = [true, false, false, false, false] ∧ ∀ r : Rc, VD r.die → VN r.near → VN r.far → ¬ EndsOK r → fi.sem [.ins "Race" [], dieD r.die, .str r.rule.s, ntsD r.near, ntsD r.far] = some (.ex "NoEnd" [] [raceD r])
theorem race_initE_ok {cf : Cfg} {F : Nat} (c : CfC cf) (cr : CfR cf) (x : CfX cf) (h1 : Kn cf "is_die" S_is_die) (h2 : Kn cf "are_notes" S_are_notes) (h3 : Kn cf "fraction" S_fraction) (h4 : Kn cf "has_end" S_has_end) : S_race_initE ⟨[true, false, false, false, false], run cf F [true, false, false, false, false] 9 m_Race_init⟩ := by
  obtain ⟨f1, g1, m1, s1⟩ := h1
  obtain ⟨f2, g2, m2, s2⟩ := h2
  obtain ⟨f3, g3, m3, s3⟩ := h3
  obtain ⟨f4, g4, m4, s4⟩ := h4
  refine ⟨rfl, fun r vd vn vf e => ?_⟩
  apply fi_eq rfl
  have hsum := sum_pos vd
  simp -implicitDefEqProofs -dsimp [m_Race_init, g1]
  refine ev_call_flat (ds := [dieD r.die]) (by simp [m1]) (by simp) (s1 _ vd) rfl ?_
  simp -implicitDefEqProofs -dsimp [isiD, tyD, tyN, c.ru, in_rules]
  rw [ev_frM_cons]
  simp -implicitDefEqProofs -dsimp [g2]
  refine ev_call_flat (ds := [ntsD r.near]) (by simp [m2]) (by simp) (s2 _ vn) rfl ?_
  simp -implicitDefEqProofs -dsimp
  rw [ev_frM_cons]
  simp -implicitDefEqProofs -dsimp [g2]
  refine ev_call_flat (ds := [ntsD r.far]) (by simp [m2]) (by simp) (s2 _ vf) rfl ?_
  simp -implicitDefEqProofs -dsimp
  rw [ev_frM_nil]
  simp -implicitDefEqProofs -dsimp [fldS_race cr, putFD]
  have hd6 := vd.d6
  have hs0 : r.die.sum ≠ 0 := by omega
  refine ev_lc_map (fun s => ratD (Rat.divInt s r.die.sum)) (by simp) (fun s hs => ?_) ?_
  · have hs2 := vd.sh s hs
    have hdE : dieD r.die = .tup (intL r.die) := rfl
    simp -implicitDefEqProofs -dsimp [ev_lcTurn, g3, hdE, sum_tup]
    refine ev_call_dat (ds := [.int s, .int r.die.sum]) (by simp [m3]) (s3 s r.die.sum hs0 ?_ (log2_small (by omega))) rfl ?_
    · have := log2_small (n := s.natAbs) (by omega)
      omega
    · simp -implicitDefEqProofs -dsimp
      exact hdE.symm
  · have a1 : r.die.length ≤ 16777216 := by omega
    simp -implicitDefEqProofs -dsimp [fldS_race cr, putFD, a1]
    rw [show [ntsD r.near, ntsD r.far] = [r.near, r.far].map ntsD from rfl]
    refine ev_lc_map (fun l => .dct (goK l)) (by simp) (fun l hl => ?_) ?_
    · have vl : VN l := by
        rcases List.mem_cons.mp hl with rfl | hl
        · exact vn
        · rw [List.mem_singleton.mp hl]; exact vf
      simp -implicitDefEqProofs -dsimp [ev_lcTurn]
      refine ev_comp_map (fun x => if x.g then some (.inl x.p, .int x.n) else none) (by simp) (fun x hx => ?_) ?_
      · simp -implicitDefEqProofs -dsimp [ev_dcTurn, c.go]
      · rw [dc_go vl]
        simp -implicitDefEqProofs -dsimp
    · simp -implicitDefEqProofs -dsimp [fldS_race cr, putFD]
      rw [show [ntsD r.near, ntsD r.far] = [r.near, r.far].map ntsD from rfl]
      refine ev_lc_map (fun l => .dct (paK l)) (by simp) (fun l hl => ?_) ?_
      · have vl : VN l := by
          rcases List.mem_cons.mp hl with rfl | hl
          · exact vn
          · rw [List.mem_singleton.mp hl]; exact vf
        simp -implicitDefEqProofs -dsimp [ev_lcTurn]
        refine ev_comp_map (fun x => if !x.g then some (.inl x.p, .int x.n) else none) (by simp) (fun x hx => ?_) ?_
        · simp -implicitDefEqProofs -dsimp [ev_dcTurn, c.wa]
        · rw [dc_pa vl]
          simp -implicitDefEqProofs -dsimp
      · obtain ⟨b, b1, b2⟩ := s4 r (RV.of vd vn vf)
        have hb : b = false := Bool.eq_false_iff.mpr fun z => e (b2.mp z)
        subst hb
        simp -implicitDefEqProofs -dsimp [fldS_race cr, putFD, g4]
        refine ev_call_flat (ds := [raceD r]) (by simp [m4]) (by simp -implicitDefEqProofs -dsimp [raceD, raceF, chD]) b1 rfl ?_
        simp -implicitDefEqProofs -dsimp [x.xe]
        rfl
/-- the parts of a race, right or not -/
structure Pa where
  die : D
  rule : D
  near : D
  far : D
def paD (p : Pa) : D := .dct [(.inr "die", p.die), (.inr "rule", p.rule), (.inr "near", p.near), (.inr "far", p.far)]
def ofR (r : Rc) : Pa := ⟨dieD r.die, .str r.rule.s, ntsD r.near, ntsD r.far⟩
theorem paD_of {r : Rc} : paD (ofR r) = lawD r := rfl
/-- how the parts are taken -/
inductive Jd : Pa → Option Str → Prop
  | ok (r : Rc) : VD r.die → VN r.near → VN r.far → EndsOK r → Jd (ofR r) none
  | die (p : Pa) : p.die ∈ oddDice → Jd p (some "die")
  | rule (die : List Int) (rule near far : D) : VD die → rule ∈ oddRules → Jd ⟨dieD die, rule, near, far⟩ (some "rule")
  | near (die : List Int) (r : Rul) (near far : D) : VD die → near ∈ oddNotes → Jd ⟨dieD die, .str r.s, near, far⟩ (some "near")
  | far (die : List Int) (r : Rul) (near : List Nt) (far : D) : VD die → VN near → far ∈ oddNotes → Jd ⟨dieD die, .str r.s, ntsD near, far⟩ (some "far")
  | ends (r : Rc) : VD r.die → VN r.near → VN r.far → ¬ EndsOK r → Jd (ofR r) (some "end")
/-- the error that tells it -/
def erOf (w : Str) : Str × List (Str × D) :=
  if w = "die" then ("InvalidDie", []) else if w = "rule" then ("InvalidRule", []) else if w = "end" then ("NoEnd", []) else ("InvalidPlaces", [("kind", .str w)])
def S_law_madeX (fi : FI) : Prop := fi.mask = [false] ∧ ∀ p w, Jd p (some w) → fi.sem [paD p] = some (.ex (erOf w).1 (erOf w).2 [])
theorem pa_die {p : Pa} : idxD (paD p) (.str "die") = some p.die := rfl
theorem pa_rule {p : Pa} : idxD (paD p) (.str "rule") = some p.rule := rfl
theorem pa_near {p : Pa} : idxD (paD p) (.str "near") = some p.near := rfl
theorem pa_far {p : Pa} : idxD (paD p) (.str "far") = some p.far := rfl
theorem law_madeX_ok {cf : Cfg} {F : Nat} (h : ∃ fi, cf.ini "Race" = some fi ∧ S_race_initX fi ∧ S_race_initE fi) : S_law_madeX ⟨[false], run cf F [false] 1 m_law_made⟩ := by
  obtain ⟨f1, g1, s1, m2, s2⟩ := h
  refine ⟨rfl, fun p w hj => ?_⟩
  have key : ∃ s, f1.sem [.ins "Race" [], p.die, p.rule, p.near, p.far] = some (.ex (erOf w).1 (erOf w).2 [s]) := by
    cases hj with
    | die _ h => exact ⟨_, s1.die _ _ _ _ h⟩
    | rule die rule near far vd h => exact ⟨_, s1.rule _ _ _ _ vd h⟩
    | near die r near far vd h => exact ⟨_, s1.near _ _ _ _ vd h⟩
    | far die r near far vd vn h => exact ⟨_, s1.far _ _ _ _ vd vn h⟩
    | ends r vd vn vf h => exact ⟨_, s2 r vd vn vf h⟩
  obtain ⟨s, hs⟩ := key
  apply fi_eq rfl
  simp -implicitDefEqProofs -dsimp [m_law_made, g1, pa_die, pa_rule, pa_near, pa_far]
  refine ev_newR (by simp [s1.mask]) ⟨_, hs, ?_⟩
  simp -implicitDefEqProofs -dsimp
/-- a call that ends in an error -/
theorem ev_call_ex {fi : FI} {δ : Env} {X : XX} {Q : R → Env → Prop} {ds : List D} {c : Str} {fs : List (Str × D)} (hm : fi.mask = List.replicate ds.length false) (hs : fi.sem ds = some (.ex c fs [])) (q : X c fs δ) : Ev (callR fi (ds.map .dat)) δ Q X := by
  have hv : ∀ ds : List D, vws δ (ds.map .dat) = some ds := by
    intro ds
    induction ds with
    | nil => rfl
    | cons d r ih =>
      rw [List.map_cons, vws_cons, vw_dat, ih]
  have hg : ∀ ds : List D, ∀ Q : List R → Env → Prop, Q (ds.map .dat) δ → Ev (giveAt (List.replicate ds.length false) (ds.map .dat)) δ Q X := by
    intro ds
    induction ds with
    | nil => intro Q h; exact h
    | cons d r ih =>
      intro Q h
      rw [List.length_cons, List.replicate_succ, List.map_cons, ev_giveAt_f, ev_give_dat]
      exact ih _ h
  have hi : ∀ ds : List D, ins δ (List.replicate ds.length false) (ds.map .dat) = some ds := by
    intro ds
    induction ds with
    | nil => rfl
    | cons d r ih =>
      rw [List.length_cons, List.replicate_succ, List.map_cons]
      show (ins δ (List.replicate r.length false) (r.map .dat)).map (d :: ·) = _
      rw [ih]
      rfl
  have hsl : ∀ ds : List D, slotsAt (List.replicate ds.length false) (ds.map .dat) = [] := by
    intro ds
    induction ds with
    | nil => rfl
    | cons d r ih =>
      rw [List.length_cons, List.replicate_succ, List.map_cons]
      exact ih
  refine ev_call (P := fun _ => True) ?_ ?_
  · unfold callPure
    rw [hv, hm]
    simp [hs]
  · rw [hm]
    refine hg ds _ ?_
    rw [hi, oK_some, hsl]
    exact ⟨List.nodup_nil, _, hs, q⟩
@[simp] theorem ev_hput_none {keep : Nat → Bool} {i : Nat} {r : R} {δ : Env} {X : XX} {Q : Fl → Env → Prop} : Ev (hput keep none i r) δ Q X = Ev (put keep i r) δ Q X := rfl
theorem ev_hput_some {keep : Nat → Bool} {i j : Nat} {r : R} {δ : Env} {X : XX} {Q : Fl → Env → Prop} (h1 : keep j = false) (h2 : j < δ.length) : Ev (hput keep (some j) i r) δ Q X = Ev (put keep i r) (δ.set j none) Q X := by
  unfold Ev hput
  dsimp only
  rw [if_neg (by rw [h1]; simp; omega)]
end Rl

set_option Elab.async false
set_option linter.all false
set_option maxRecDepth 100000
set_option maxHeartbeats 4000000
/-! Pl V: a law draws a race. -/
namespace Rl
open PySem L2
theorem ev_drawn {ns : List Int} {fi : FI} {δ : Env} {X : XX} {i : Nat} {d : D} {Q : R → Env → Prop} (h : S_law_drawn fi) (hi : δ[i]? = some (some (.own d))) (hd : IsRow ns d)
    (k : ∀ r d', DR r → IsRow ns d' → Q (.own (lawD r)) (δ.set i (some (.own d')))) : Ev (callR fi [.bor i]) δ Q X := by
  obtain ⟨hm, hs⟩ := h
  obtain ⟨l, d', a, b, e⟩ := hs ns d hd
  refine ev_call (P := fun _ => True) ?_ ?_
  · unfold callPure
    rw [hm]
    rfl
  · rw [hm, ev_giveAt_t, ev_giveAt_nil]
    have h1 : ins δ [true] [.bor i] = some [d] := by
      show (match (motive := Option (Option B) → Option (List D) → Option (List D)) δ[i]?, ins δ [] [] with | some (some (.own d)), some ds => some (d :: ds) | _, _ => none) = _
      rw [hi]
      rfl
    rw [h1, oK_some]
    refine ⟨by simp [slotsAt], _, e, ?_⟩
    show oK (some _) _
    exact k l d' a b
theorem DR.vd {r : Rc} (h : DR r) : VD r.die := dice_vd _ h.die
theorem made_of {fi : FI} (s : S_law_made fi) {r : Rc} (h : DR r) : fi.sem [lawD r] = some (.ret true (raceD r) []) := s.2 r h.vd h.near.vn h.far.vn h.ends
theorem IsRow.init (ns : List Int) (s : Int) (h0 : 0 ≤ s) (h1 : s < 1000) : IsRow ns (.lst [.scr (ns.map .int), .int 0, .int s, .int 0]) := ⟨0, s, 0, rfl, by omega, h0, by omega⟩
end Rl

set_option Elab.async false
set_option linter.all false
set_option maxRecDepth 100000
set_option maxHeartbeats 4000000
/-! Pl W: more facts of a list of entries. -/
namespace Rl
open PySem L2
theorem kn_l {o : Option FI} {A B : FI → Prop} (h : ∃ fi, o = some fi ∧ A fi ∧ B fi) : ∃ fi, o = some fi ∧ A fi := let ⟨fi, a, b, _⟩ := h; ⟨fi, a, b⟩
theorem kn_r {o : Option FI} {A B : FI → Prop} (h : ∃ fi, o = some fi ∧ A fi ∧ B fi) : ∃ fi, o = some fi ∧ B fi := let ⟨fi, a, _, b⟩ := h; ⟨fi, a, b⟩
theorem cfgOf_exc {F : Nat} : ∀ {es : List Ent} {cf : Cfg}, (cfgOf cf F es).exc = cf.exc
  | [], _ => rfl
  | e :: es, cf => by
    show (cfgOf (e.add cf F) F es).exc = cf.exc
    rw [cfgOf_exc]
    unfold Ent.add addE
    cases e.slot <;> rfl
theorem cfgOf_hcl {F : Nat} : ∀ {es : List Ent} {cf : Cfg}, (cfgOf cf F es).hcl = cf.hcl
  | [], _ => rfl
  | e :: es, cf => by
    show (cfgOf (e.add cf F) F es).hcl = cf.hcl
    rw [cfgOf_hcl]
    unfold Ent.add addE
    cases e.slot <;> rfl
theorem cfgOf_exm {F : Nat} : ∀ {es : List Ent} {cf : Cfg}, (cfgOf cf F es).exm = cf.exm
  | [], _ => rfl
  | e :: es, cf => by
    show (cfgOf (e.add cf F) F es).exm = cf.exm
    rw [cfgOf_exm]
    unfold Ent.add addE
    cases e.slot <;> rfl
theorem cfX_of {cf : Cfg} {F : Nat} {es : List Ent} (c : CfX cf) : CfX (cfgOf cf F es) := by
  have e := cfgOf_exc (F := F) (es := es) (cf := cf)
  exact ⟨by rw [e]; exact c.xd, by rw [e]; exact c.xr, by rw [e]; exact c.xp, by rw [e]; exact c.xe⟩
end Rl

set_option Elab.async false
set_option linter.all false
set_option maxRecDepth 100000
set_option maxHeartbeats 4000000
/-! k02: the law's run. -/
namespace Rl
open PySem L2
def m_law_refused : List MS := [.set 1 (.cst .non),
    .tri [.exp (.cal "_law_made" [(.var 0)])] [⟨"InvalidDie", none, 1, .at (.cst (.str "die"))⟩, ⟨"InvalidRule", none, 1, .at (.cst (.str "rule"))⟩, ⟨"InvalidPlaces", some 2, 1, .at (.fld "kind")⟩, ⟨"NoEnd", none, 1, .at (.cst (.str "end"))⟩],
    .ret (.var 1)]
/-- the clauses -/
structure CfH (cf : Cfg) : Prop extends CfX cf where
  hc : ∀ h ∈ (["InvalidDie", "InvalidRule", "InvalidPlaces", "NoEnd"] : List Str), cf.hcl h = true
  ex : ∀ c ∈ (["InvalidDie", "InvalidRule", "InvalidPlaces", "NoEnd"] : List Str), ∀ h ∈ (["InvalidDie", "InvalidRule", "InvalidPlaces", "NoEnd"] : List Str), cf.exm c h = some (decide (c = h))
def dueD : Option Str → D
  | none => .non
  | some w => .str w
def S_law_refused (fi : FI) : Prop := fi.mask = [false] ∧ ∀ p o, Jd p o → fi.sem [paD p] = some (.ret false (dueD o) [])
theorem law_refused_ok {cf : Cfg} {F : Nat} (x : CfH cf) (h : ∃ fi, cf.fns "_law_made" = some fi ∧ S_law_made fi ∧ S_law_madeX fi) : S_law_refused ⟨[false], run cf F [false] 3 m_law_refused⟩ := by
  obtain ⟨f1, g1, ⟨m1, s1⟩, _, s2⟩ := h
  have hc := x.hc
  have ex := x.ex
  have a1 := hc "InvalidDie" (by simp)
  have a2 := hc "InvalidRule" (by simp)
  have a3 := hc "InvalidPlaces" (by simp)
  have a4 := hc "NoEnd" (by simp)
  refine ⟨rfl, fun p o hj => ?_⟩
  apply fi_eq rfl
  simp -implicitDefEqProofs -dsimp [m_law_refused, a1, a2, a3, a4, g1]
  cases o with
  | none =>
    cases hj with
    | ok r vd vn vf e =>
      refine ev_call_dat (ds := [paD (ofR r)]) (by simp [m1]) (s1 r vd vn vf e) rfl ?_
      simp -implicitDefEqProofs -dsimp [dueD]
  | some w =>
    refine ev_call_ex (ds := [paD p]) (by simp [m1]) (s2 p w hj) ?_
    have e : ∀ c ∈ (["InvalidDie", "InvalidRule", "InvalidPlaces", "NoEnd"] : List Str), ∀ h ∈ (["InvalidDie", "InvalidRule", "InvalidPlaces", "NoEnd"] : List Str), cf.exm c h = some (decide (c = h)) := ex
    have n1 : cf.exm "InvalidRule" "InvalidDie" = some false := (e _ (by simp) _ (by simp)).trans (by decide +kernel)
    have n2 : cf.exm "InvalidPlaces" "InvalidDie" = some false := (e _ (by simp) _ (by simp)).trans (by decide +kernel)
    have n3 : cf.exm "InvalidPlaces" "InvalidRule" = some false := (e _ (by simp) _ (by simp)).trans (by decide +kernel)
    have n4 : cf.exm "NoEnd" "InvalidDie" = some false := (e _ (by simp) _ (by simp)).trans (by decide +kernel)
    have n5 : cf.exm "NoEnd" "InvalidRule" = some false := (e _ (by simp) _ (by simp)).trans (by decide +kernel)
    have n6 : cf.exm "NoEnd" "InvalidPlaces" = some false := (e _ (by simp) _ (by simp)).trans (by decide +kernel)
    have y1 : cf.exm "InvalidDie" "InvalidDie" = some true := (e _ (by simp) _ (by simp)).trans (by decide +kernel)
    have y2 : cf.exm "InvalidRule" "InvalidRule" = some true := (e _ (by simp) _ (by simp)).trans (by decide +kernel)
    have y3 : cf.exm "InvalidPlaces" "InvalidPlaces" = some true := (e _ (by simp) _ (by simp)).trans (by decide +kernel)
    have y4 : cf.exm "NoEnd" "NoEnd" = some true := (e _ (by simp) _ (by simp)).trans (by decide +kernel)
    have hw : w = "die" ∨ w = "rule" ∨ w = "near" ∨ w = "far" ∨ w = "end" := by cases hj <;> simp
    rcases hw with rfl | rfl | rfl | rfl | rfl
    · rw [show erOf "die" = (("InvalidDie", []) : Str × List (Str × D)) from rfl, ev_hdl_yes y1 x.xd]
      simp -implicitDefEqProofs -dsimp [hxR, haD, scD, dueD]
    · rw [show erOf "rule" = (("InvalidRule", []) : Str × List (Str × D)) from rfl, ev_hdl_no n1, ev_hdl_yes y2 x.xr]
      simp -implicitDefEqProofs -dsimp [hxR, haD, scD, dueD]
    · rw [show erOf "near" = (("InvalidPlaces", [("kind", .str "near")]) : Str × List (Str × D)) from rfl, ev_hdl_no n2, ev_hdl_no n3, ev_hdl_yes y3 x.xp]
      simp -implicitDefEqProofs -dsimp [hxR, haD, scD, dueD]
      rw [ev_hput_some (by simp) (by simp)]
      simp -implicitDefEqProofs -dsimp
      rfl
    · rw [show erOf "far" = (("InvalidPlaces", [("kind", .str "far")]) : Str × List (Str × D)) from rfl, ev_hdl_no n2, ev_hdl_no n3, ev_hdl_yes y3 x.xp]
      simp -implicitDefEqProofs -dsimp [hxR, haD, scD, dueD]
      rw [ev_hput_some (by simp) (by simp)]
      simp -implicitDefEqProofs -dsimp
      rfl
    · rw [show erOf "end" = (("NoEnd", []) : Str × List (Str × D)) from rfl, ev_hdl_no n4, ev_hdl_no n5, ev_hdl_no n6, ev_hdl_yes y4 x.xe]
      simp -implicitDefEqProofs -dsimp [hxR, haD, scD, dueD]
theorem putKD_len (l : List (Key × D)) (k : Key) (v : D) : (putKD l k v).length ≤ l.length + 1 := by
  unfold putKD
  split
  · rw [List.length_map]; omega
  · rw [List.length_append, List.length_singleton]; omega
/-- a dict with further parts -/
def putPs (l : List (Key × D)) (ps : List (Str × D)) : List (Key × D) := ps.foldl (fun a p => putKD a (.inr p.1) p.2) l
def S_law_withG (fi : FI) : Prop := fi.mask = [false, false] ∧ ∀ (l : List (Key × D)) (ps : List (Str × D)), l.length + ps.length ≤ 1000 → fi.sem [.dct l, .lst (ps.map fun p => .tup [.str p.1, p.2])] = some (.ret true (.dct (putPs l ps)) [])
theorem law_withG_ok {cf : Cfg} {F : Nat} : S_law_withG ⟨[false, false], run cf F [false, false] 5 m_law_with⟩ := by
  refine ⟨rfl, fun l ps hl => ?_⟩
  apply fi_eq rfl
  have e1 : ∀ l, bltD .dict [.dct l] = some (.own (.dct l)) := fun l => rfl
  simp -implicitDefEqProofs -dsimp [m_law_with, e1]
  refine ev_frM_map (fun rem δ => ∃ l' x3 x4, δ = [some (.dat (.dct l)), some (.dat (.lst (ps.map fun p => .tup [.str p.1, p.2]))), some (.own (.dct l')), x3, x4] ∧ putPs l' rem = putPs l ps ∧ l'.length + rem.length ≤ 1000) (by simp) ⟨l, none, none, rfl, rfl, hl⟩ ?_ ?_
  · rintro p rem δ ⟨l', x3, x4, rfl, h, hn⟩
    refine ⟨_, by simp; rfl, ?_⟩
    simp -implicitDefEqProofs -dsimp
    have hn' : l'.length + (rem.length + 1) ≤ 1000 := by rw [List.length_cons] at hn; exact hn
    have st : storeD (.dct l') (.str p.1) p.2 = some (.dct (putKD l' (.inr p.1) p.2)) := by
      show (if szOk (l'.length + 1) = true then some (D.dct (putKD l' (.inr p.1) p.2)) else none) = _
      rw [if_pos (by unfold szOk; exact decide_eq_true (by omega))]
    simp -implicitDefEqProofs -dsimp [st]
    have := putKD_len l' (.inr p.1) p.2
    first
      | exact ⟨_, _, _, rfl, h, by omega⟩
      | exact ⟨h, by omega⟩
      | omega
  · rintro δ ⟨l', x3, x4, rfl, h, _⟩
    have h : l' = putPs l ps := h
    subst h
    simp -implicitDefEqProofs -dsimp
def S_law_odd_notes (fi : FI) : Prop := fi.mask = [] ∧ fi.sem [] = some (.ret true (.lst oddNotes) [])
theorem law_odd_notes_ok {cf : Cfg} {F : Nat} : S_law_odd_notes ⟨[], run cf F [] 1 m_law_odd_notes⟩ := by
  refine ⟨rfl, ?_⟩
  apply fi_eq rfl
  simp -implicitDefEqProofs -dsimp [m_law_odd_notes, scD]
  try rfl
end Rl

set_option Elab.async false
set_option linter.all false
set_option maxRecDepth 100000
set_option maxHeartbeats 4000000
/-! k02: a turn of the inner loop. -/
namespace Rl
open PySem L2
def k02In : List MS := [.set 9 (.bmt .get (.dic [((.cst (.str "die")), (.var 2)), ((.cst (.str "rule")), (.var 3))]) [(.var 8), (.cal "_law_odd_notes" [])]), .ite (.cmp .eq (.cal "_law_taken" [(.var 1), (.cst (.int 3))]) (.cst (.int 0))) [.par [.nm 6, .nm 7] [(.cal "_law_with" [(.var 6), (.lst [(.tup [(.var 8), (.idx (.var 9) (.cal "_law_taken" [(.var 1), (.blt .len [(.var 9)])]))])])]), (.var 8)]] []]
theorem idx_mem {l : List D} {b : Int} (h0 : 0 ≤ b) (h1 : b < l.length) : ∃ v ∈ l, idxD (.lst l) (.int b) = some v := by
  obtain ⟨n, rfl⟩ := Int.eq_ofNat_of_zero_le h0
  have hn : n < l.length := by omega
  refine ⟨l[n], List.getElem_mem _, ?_⟩
  show atI l (n : Int) = _
  unfold atI ixN
  rw [if_pos h0]
  simp [hn]
theorem k02_far {cf : Cfg} {F : Nat} {ns : List Int} (h2 : Kn cf "_law_taken" S_taken) (h3 : Kn cf "_law_with" S_law_withG) (h4 : Kn cf "_law_odd_notes" S_law_odd_notes) {p : Pa} {o : Option Str} {row : D} (hr : IsRow ns row) {y2 y3 y6 : B} (o2 : OD (.lst oddDice) y2) (o3 : OD (.lst oddRules) y3) (o6 : OD (paD p) y6)
    {x0 x4 x5 x9 x10 : Option B} {Q : Fl → Env → Prop} {X : XX}
    (q : ∀ row' p' o' y6' x9', IsRow ns row' → OD (paD p') y6' → ((p' = p ∧ o' = o) ∨ (∃ v ∈ oddNotes, p' = { p with far := v } ∧ o' = some "far")) → Q .nx [x0, some (.own row'), some (.dat (.lst oddDice)), some (.dat (.lst oddRules)), x4, x5, some y6', some (.dat (dueD o')), some (.dat (.str "far")), x9', x10]) :
    Ev (evSs cf F (keepOf [false]) k02In) [x0, some (.own row), some y2, some y3, x4, x5, some y6, some (.dat (dueD o)), some (.dat (.str "far")), x9, x10] Q X := by
  obtain ⟨f2, g2, s2⟩ := h2
  obtain ⟨f3, g3, m3, s3⟩ := h3
  obtain ⟨f4, g4, m4, s4⟩ := h4
  have e1 : bmtD .get (.dct (putKD (putKD [] (.inr "die") (D.lst oddDice)) (.inr "rule") (D.lst oddRules))) [.str "far", .lst oddNotes] = some (.dat (.lst oddNotes)) := rfl
  have key : Ev (evSs cf F (keepOf [false]) (k02In.drop 1)) [x0, some (.own row), some (.dat (.lst oddDice)), some (.dat (.lst oddRules)), x4, x5, some y6, some (.dat (dueD o)), some (.dat (.str "far")), some (.dat (.lst oddNotes)), x10] Q X := by
    rcases o6 with rfl | rfl
    all_goals
      simp -implicitDefEqProofs -dsimp [k02In, g2]
      refine ev_taken s2 (by simp) hr (by decide) (by decide) fun a d1 a0 a1 hd1 => ?_
      by_cases ha : a = 0
      · simp -implicitDefEqProofs -dsimp [ha, g2, g3]
        refine ev_taken s2 (by simp) hd1 (by decide) (by decide) fun b d2 b0 b1 hd2 => ?_
        obtain ⟨v, v1, v2⟩ := idx_mem b0 b1
        have w : f3.sem [paD p, .lst [.tup [.str "far", v]]] = some (.ret true (paD { p with far := v }) []) := s3 [(.inr "die", p.die), (.inr "rule", p.rule), (.inr "near", p.near), (.inr "far", p.far)] [("far", v)] (by simp)
        simp -implicitDefEqProofs -dsimp [v2, g3]
        refine ev_call_frz (ds := [paD p, .lst [.tup [.str "far", v]]]) (by simp [m3]) (by simp) w rfl ?_
        simp -implicitDefEqProofs -dsimp
        exact q d2 { p with far := v } (some "far") _ _ hd2 od_own (.inr ⟨v, v1, rfl, rfl⟩)
      · simp -implicitDefEqProofs -dsimp [ha]
        first
          | exact q d1 p o _ _ hd1 od_own (.inl ⟨rfl, rfl⟩)
          | exact q d1 p o _ _ hd1 od_dat (.inl ⟨rfl, rfl⟩)
  rcases o2 with rfl | rfl <;> rcases o3 with rfl | rfl <;> rcases o6 with rfl | rfl
  all_goals
    simp -implicitDefEqProofs -dsimp [k02In, g4, scD]
    refine ev_call_dat (ds := []) m4 s4 rfl ?_
    simp -implicitDefEqProofs -dsimp [e1]
    simpa [k02In] using key
theorem k02_near {cf : Cfg} {F : Nat} {ns : List Int} (h2 : Kn cf "_law_taken" S_taken) (h3 : Kn cf "_law_with" S_law_withG) (h4 : Kn cf "_law_odd_notes" S_law_odd_notes) {p : Pa} {o : Option Str} {row : D} (hr : IsRow ns row) {y2 y3 y6 : B} (o2 : OD (.lst oddDice) y2) (o3 : OD (.lst oddRules) y3) (o6 : OD (paD p) y6)
    {x0 x4 x5 x9 x10 : Option B} {Q : Fl → Env → Prop} {X : XX}
    (q : ∀ row' p' o' y6' x9', IsRow ns row' → OD (paD p') y6' → ((p' = p ∧ o' = o) ∨ (∃ v ∈ oddNotes, p' = { p with near := v } ∧ o' = some "near")) → Q .nx [x0, some (.own row'), some (.dat (.lst oddDice)), some (.dat (.lst oddRules)), x4, x5, some y6', some (.dat (dueD o')), some (.dat (.str "near")), x9', x10]) :
    Ev (evSs cf F (keepOf [false]) k02In) [x0, some (.own row), some y2, some y3, x4, x5, some y6, some (.dat (dueD o)), some (.dat (.str "near")), x9, x10] Q X := by
  obtain ⟨f2, g2, s2⟩ := h2
  obtain ⟨f3, g3, m3, s3⟩ := h3
  obtain ⟨f4, g4, m4, s4⟩ := h4
  have e1 : bmtD .get (.dct (putKD (putKD [] (.inr "die") (D.lst oddDice)) (.inr "rule") (D.lst oddRules))) [.str "near", .lst oddNotes] = some (.dat (.lst oddNotes)) := rfl
  have key : Ev (evSs cf F (keepOf [false]) (k02In.drop 1)) [x0, some (.own row), some (.dat (.lst oddDice)), some (.dat (.lst oddRules)), x4, x5, some y6, some (.dat (dueD o)), some (.dat (.str "near")), some (.dat (.lst oddNotes)), x10] Q X := by
    rcases o6 with rfl | rfl
    all_goals
      simp -implicitDefEqProofs -dsimp [k02In, g2]
      refine ev_taken s2 (by simp) hr (by decide) (by decide) fun a d1 a0 a1 hd1 => ?_
      by_cases ha : a = 0
      · simp -implicitDefEqProofs -dsimp [ha, g2, g3]
        refine ev_taken s2 (by simp) hd1 (by decide) (by decide) fun b d2 b0 b1 hd2 => ?_
        obtain ⟨v, v1, v2⟩ := idx_mem b0 b1
        have w : f3.sem [paD p, .lst [.tup [.str "near", v]]] = some (.ret true (paD { p with near := v }) []) := s3 [(.inr "die", p.die), (.inr "rule", p.rule), (.inr "near", p.near), (.inr "far", p.far)] [("near", v)] (by simp)
        simp -implicitDefEqProofs -dsimp [v2, g3]
        refine ev_call_frz (ds := [paD p, .lst [.tup [.str "near", v]]]) (by simp [m3]) (by simp) w rfl ?_
        simp -implicitDefEqProofs -dsimp
        exact q d2 { p with near := v } (some "near") _ _ hd2 od_own (.inr ⟨v, v1, rfl, rfl⟩)
      · simp -implicitDefEqProofs -dsimp [ha]
        first
          | exact q d1 p o _ _ hd1 od_own (.inl ⟨rfl, rfl⟩)
          | exact q d1 p o _ _ hd1 od_dat (.inl ⟨rfl, rfl⟩)
  rcases o2 with rfl | rfl <;> rcases o3 with rfl | rfl <;> rcases o6 with rfl | rfl
  all_goals
    simp -implicitDefEqProofs -dsimp [k02In, g4, scD]
    refine ev_call_dat (ds := []) m4 s4 rfl ?_
    simp -implicitDefEqProofs -dsimp [e1]
    simpa [k02In] using key
theorem k02_rule {cf : Cfg} {F : Nat} {ns : List Int} (h2 : Kn cf "_law_taken" S_taken) (h3 : Kn cf "_law_with" S_law_withG) (h4 : Kn cf "_law_odd_notes" S_law_odd_notes) {p : Pa} {o : Option Str} {row : D} (hr : IsRow ns row) {y2 y3 y6 : B} (o2 : OD (.lst oddDice) y2) (o3 : OD (.lst oddRules) y3) (o6 : OD (paD p) y6)
    {x0 x4 x5 x9 x10 : Option B} {Q : Fl → Env → Prop} {X : XX}
    (q : ∀ row' p' o' y6' x9', IsRow ns row' → OD (paD p') y6' → ((p' = p ∧ o' = o) ∨ (∃ v ∈ oddRules, p' = { p with rule := v } ∧ o' = some "rule")) → Q .nx [x0, some (.own row'), some (.dat (.lst oddDice)), some (.dat (.lst oddRules)), x4, x5, some y6', some (.dat (dueD o')), some (.dat (.str "rule")), x9', x10]) :
    Ev (evSs cf F (keepOf [false]) k02In) [x0, some (.own row), some y2, some y3, x4, x5, some y6, some (.dat (dueD o)), some (.dat (.str "rule")), x9, x10] Q X := by
  obtain ⟨f2, g2, s2⟩ := h2
  obtain ⟨f3, g3, m3, s3⟩ := h3
  obtain ⟨f4, g4, m4, s4⟩ := h4
  have e1 : bmtD .get (.dct (putKD (putKD [] (.inr "die") (D.lst oddDice)) (.inr "rule") (D.lst oddRules))) [.str "rule", .lst oddNotes] = some (.dat (.lst oddRules)) := rfl
  have key : Ev (evSs cf F (keepOf [false]) (k02In.drop 1)) [x0, some (.own row), some (.dat (.lst oddDice)), some (.dat (.lst oddRules)), x4, x5, some y6, some (.dat (dueD o)), some (.dat (.str "rule")), some (.dat (.lst oddRules)), x10] Q X := by
    rcases o6 with rfl | rfl
    all_goals
      simp -implicitDefEqProofs -dsimp [k02In, g2]
      refine ev_taken s2 (by simp) hr (by decide) (by decide) fun a d1 a0 a1 hd1 => ?_
      by_cases ha : a = 0
      · simp -implicitDefEqProofs -dsimp [ha, g2, g3]
        refine ev_taken s2 (by simp) hd1 (by decide) (by decide) fun b d2 b0 b1 hd2 => ?_
        obtain ⟨v, v1, v2⟩ := idx_mem b0 b1
        have w : f3.sem [paD p, .lst [.tup [.str "rule", v]]] = some (.ret true (paD { p with rule := v }) []) := s3 [(.inr "die", p.die), (.inr "rule", p.rule), (.inr "near", p.near), (.inr "far", p.far)] [("rule", v)] (by simp)
        simp -implicitDefEqProofs -dsimp [v2, g3]
        refine ev_call_frz (ds := [paD p, .lst [.tup [.str "rule", v]]]) (by simp [m3]) (by simp) w rfl ?_
        simp -implicitDefEqProofs -dsimp
        exact q d2 { p with rule := v } (some "rule") _ _ hd2 od_own (.inr ⟨v, v1, rfl, rfl⟩)
      · simp -implicitDefEqProofs -dsimp [ha]
        first
          | exact q d1 p o _ _ hd1 od_own (.inl ⟨rfl, rfl⟩)
          | exact q d1 p o _ _ hd1 od_dat (.inl ⟨rfl, rfl⟩)
  rcases o2 with rfl | rfl <;> rcases o3 with rfl | rfl <;> rcases o6 with rfl | rfl
  all_goals
    simp -implicitDefEqProofs -dsimp [k02In, g4, scD]
    refine ev_call_dat (ds := []) m4 s4 rfl ?_
    simp -implicitDefEqProofs -dsimp [e1]
    simpa [k02In] using key
theorem k02_die {cf : Cfg} {F : Nat} {ns : List Int} (h2 : Kn cf "_law_taken" S_taken) (h3 : Kn cf "_law_with" S_law_withG) (h4 : Kn cf "_law_odd_notes" S_law_odd_notes) {p : Pa} {o : Option Str} {row : D} (hr : IsRow ns row) {y2 y3 y6 : B} (o2 : OD (.lst oddDice) y2) (o3 : OD (.lst oddRules) y3) (o6 : OD (paD p) y6)
    {x0 x4 x5 x9 x10 : Option B} {Q : Fl → Env → Prop} {X : XX}
    (q : ∀ row' p' o' y6' x9', IsRow ns row' → OD (paD p') y6' → ((p' = p ∧ o' = o) ∨ (∃ v ∈ oddDice, p' = { p with die := v } ∧ o' = some "die")) → Q .nx [x0, some (.own row'), some (.dat (.lst oddDice)), some (.dat (.lst oddRules)), x4, x5, some y6', some (.dat (dueD o')), some (.dat (.str "die")), x9', x10]) :
    Ev (evSs cf F (keepOf [false]) k02In) [x0, some (.own row), some y2, some y3, x4, x5, some y6, some (.dat (dueD o)), some (.dat (.str "die")), x9, x10] Q X := by
  obtain ⟨f2, g2, s2⟩ := h2
  obtain ⟨f3, g3, m3, s3⟩ := h3
  obtain ⟨f4, g4, m4, s4⟩ := h4
  have e1 : bmtD .get (.dct (putKD (putKD [] (.inr "die") (D.lst oddDice)) (.inr "rule") (D.lst oddRules))) [.str "die", .lst oddNotes] = some (.dat (.lst oddDice)) := rfl
  have key : Ev (evSs cf F (keepOf [false]) (k02In.drop 1)) [x0, some (.own row), some (.dat (.lst oddDice)), some (.dat (.lst oddRules)), x4, x5, some y6, some (.dat (dueD o)), some (.dat (.str "die")), some (.dat (.lst oddDice)), x10] Q X := by
    rcases o6 with rfl | rfl
    all_goals
      simp -implicitDefEqProofs -dsimp [k02In, g2]
      refine ev_taken s2 (by simp) hr (by decide) (by decide) fun a d1 a0 a1 hd1 => ?_
      by_cases ha : a = 0
      · simp -implicitDefEqProofs -dsimp [ha, g2, g3]
        refine ev_taken s2 (by simp) hd1 (by decide) (by decide) fun b d2 b0 b1 hd2 => ?_
        obtain ⟨v, v1, v2⟩ := idx_mem b0 b1
        have w : f3.sem [paD p, .lst [.tup [.str "die", v]]] = some (.ret true (paD { p with die := v }) []) := s3 [(.inr "die", p.die), (.inr "rule", p.rule), (.inr "near", p.near), (.inr "far", p.far)] [("die", v)] (by simp)
        simp -implicitDefEqProofs -dsimp [v2, g3]
        refine ev_call_frz (ds := [paD p, .lst [.tup [.str "die", v]]]) (by simp [m3]) (by simp) w rfl ?_
        simp -implicitDefEqProofs -dsimp
        exact q d2 { p with die := v } (some "die") _ _ hd2 od_own (.inr ⟨v, v1, rfl, rfl⟩)
      · simp -implicitDefEqProofs -dsimp [ha]
        first
          | exact q d1 p o _ _ hd1 od_own (.inl ⟨rfl, rfl⟩)
          | exact q d1 p o _ _ hd1 od_dat (.inl ⟨rfl, rfl⟩)
  rcases o2 with rfl | rfl <;> rcases o3 with rfl | rfl <;> rcases o6 with rfl | rfl
  all_goals
    simp -implicitDefEqProofs -dsimp [k02In, g4, scD]
    refine ev_call_dat (ds := []) m4 s4 rfl ?_
    simp -implicitDefEqProofs -dsimp [e1]
    simpa [k02In] using key
/-- behind the four turns -/
theorem jd_turns {r : Rc} (vd : VD r.die) (vn : VN r.near) (vf : VN r.far) (e : EndsOK r) {p1 p2 p3 p4 : Pa} {o1 o2 o3 o4 : Option Str}
    (h1 : (p1 = ofR r ∧ o1 = none) ∨ (∃ v ∈ oddNotes, p1 = { ofR r with far := v } ∧ o1 = some "far")) (h2 : (p2 = p1 ∧ o2 = o1) ∨ (∃ v ∈ oddNotes, p2 = { p1 with near := v } ∧ o2 = some "near"))
    (h3 : (p3 = p2 ∧ o3 = o2) ∨ (∃ v ∈ oddRules, p3 = { p2 with rule := v } ∧ o3 = some "rule")) (h4 : (p4 = p3 ∧ o4 = o3) ∨ (∃ v ∈ oddDice, p4 = { p3 with die := v } ∧ o4 = some "die")) : Jd p4 o4 := by
  rcases h4 with ⟨rfl, rfl⟩ | ⟨v, hv, rfl, rfl⟩
  · rcases h3 with ⟨rfl, rfl⟩ | ⟨v, hv, rfl, rfl⟩
    · rcases h2 with ⟨rfl, rfl⟩ | ⟨v, hv, rfl, rfl⟩
      · rcases h1 with ⟨rfl, rfl⟩ | ⟨v, hv, rfl, rfl⟩
        · exact .ok r vd vn vf e
        · exact .far r.die r.rule r.near v vd vn hv
      · rcases h1 with ⟨rfl, rfl⟩ | ⟨u, hu, rfl, rfl⟩
        · exact .near r.die r.rule v _ vd hv
        · exact .near r.die r.rule v u vd hv
    · rcases h2 with ⟨rfl, rfl⟩ | ⟨t, ht, rfl, rfl⟩ <;> rcases h1 with ⟨rfl, rfl⟩ | ⟨u, hu, rfl, rfl⟩ <;> exact .rule r.die v _ _ vd hv
  · exact .die _ hv
end Rl

set_option Elab.async false
set_option linter.all false
set_option maxRecDepth 100000
set_option maxHeartbeats 4000000
namespace Rl
open PySem L2
def rcStuck : Rc := ⟨[1], .stay, [⟨1, true, 0⟩], []⟩
theorem stuck_no : ¬ EndsOK rcStuck := by
  intro h
  have rv : RV rcStuck := ⟨by constructor <;> simp [rcStuck], by constructor <;> simp [rcStuck], by simp [rcStuck], by simp [rcStuck]⟩
  have h1 := (ends_iff (r := rcStuck) rv (Int.le_refl _)).mpr h
  have h2 : lawEndsB rcStuck (leastL rcStuck) = false := by decide +kernel
  rw [h2] at h1
  cases h1
def m_law : List MS := [.set 1 (.lst [(.var 0), (.cst (.int 0)), (.cst (.int 32)), (.cst (.int 0))]),
    .set 2 (.lst [(.cst .non), (.tup []), (.lst [(.cst (.int 1))]), (.tup [(.cst (.int 0))]), (.tup [(.cst (.int 1)), (.cst (.int 0))]), (.tup [(.cst (.int 0)), (.cst (.int 1))]), (.tup [(.cst (.int 0)), (.cst (.int 1)), (.cst (.int 0)), (.cst (.int 1))]), (.tup [(.cst (.int 1)), (.cst (.int 100))]), (.tup [(.cst (.int 1)), (.neg (.cst (.int 1)))]), (.tup [(.cst (.bl true))]), (.tup [(.cst (.str "1"))]), (.bop .mul (.tup [(.cst (.int 1))]) (.cst (.int 7)))]),
    .set 2 (.bop .add (.var 2) (.lst [(.cst (.int 1)), (.tup [(.cst (.int 0)), (.cst (.int 0)), (.cst (.int 5))]), (.cst (.str "die")), (.tup [(.cst (.int 1)), (.cst .non)])])),
    .set 3 (.lst [(.cst .non), (.cst (.str "")), (.cst (.str "Done")), (.cst (.int 0)), (.cst (.str "lets")), (.tup [(.cst (.str "done"))]), (.cst (.bl true))]),
    .fr (.one 4) (.rg1 (.cst (.int 5))) [.set 5 (.cal "_law_drawn" [(.var 1)]), .ite (.cmp .isn (.cal "_law_refused" [(.var 5)]) (.cst .non)) [.ret (.cst (.bl false))] [], .par [.nm 6, .nm 7] [(.cal "_law_with" [(.var 5), (.lst [])]), (.cst .non)], .fr (.one 8) (.seq (.lst [(.cst (.str "far")), (.cst (.str "near")), (.cst (.str "rule")), (.cst (.str "die"))])) [.set 9 (.bmt .get (.dic [((.cst (.str "die")), (.var 2)), ((.cst (.str "rule")), (.var 3))]) [(.var 8), (.cal "_law_odd_notes" [])]), .ite (.cmp .eq (.cal "_law_taken" [(.var 1), (.cst (.int 3))]) (.cst (.int 0))) [.par [.nm 6, .nm 7] [(.cal "_law_with" [(.var 6), (.lst [(.tup [(.var 8), (.idx (.var 9) (.cal "_law_taken" [(.var 1), (.blt .len [(.var 9)])]))])])]), (.var 8)]] []], .ite (.cmp .ne (.cal "_law_refused" [(.var 6)]) (.var 7)) [.ret (.cst (.bl false))] [], .set 10 (.cal "_law_with" [(.var 5), (.lst [(.tup [(.cst (.str "far")), (.cal "_law_notes" [(.var 1)])]), (.tup [(.cst (.str "near")), (.cal "_law_notes" [(.var 1)])])])]), .sto 10 (.cst (.str "rule")) (.idx (.lst [(.cst (.str "stay")), (.cst (.str "bounce"))]) (.bop .mod (.var 4) (.cst (.int 2)))), .ite (.cmp .ne (.cal "_law_refused" [(.var 10)]) (.ife (.cal "_law_ends" [(.var 10)]) (.cst .non) (.cst (.str "end")))) [.ret (.cst (.bl false))] []],
    .ret (.cmp .eq (.cal "_law_refused" [(.dic [((.cst (.str "die")), (.tup [(.cst (.int 1))])), ((.cst (.str "rule")), (.cst (.str "stay"))), ((.cst (.str "near")), (.tup [(.tup [(.cst (.int 1)), (.cst (.str "go")), (.cst (.int 0))])])), ((.cst (.str "far")), (.tup []))])]) (.cst (.str "end")))]
def k02A : List MS := [.set 5 (.cal "_law_drawn" [(.var 1)]), .ite (.cmp .isn (.cal "_law_refused" [(.var 5)]) (.cst .non)) [.ret (.cst (.bl false))] [], .par [.nm 6, .nm 7] [(.cal "_law_with" [(.var 5), (.lst [])]), (.cst .non)]]
def k02F : List MS := [.fr (.one 8) (.seq (.lst [(.cst (.str "far")), (.cst (.str "near")), (.cst (.str "rule")), (.cst (.str "die"))])) k02In]
def k02B : List MS := [.ite (.cmp .ne (.cal "_law_refused" [(.var 6)]) (.var 7)) [.ret (.cst (.bl false))] [], .set 10 (.cal "_law_with" [(.var 5), (.lst [(.tup [(.cst (.str "far")), (.cal "_law_notes" [(.var 1)])]), (.tup [(.cst (.str "near")), (.cal "_law_notes" [(.var 1)])])])]), .sto 10 (.cst (.str "rule")) (.idx (.lst [(.cst (.str "stay")), (.cst (.str "bounce"))]) (.bop .mod (.var 4) (.cst (.int 2)))), .ite (.cmp .ne (.cal "_law_refused" [(.var 10)]) (.ife (.cal "_law_ends" [(.var 10)]) (.cst .non) (.cst (.str "end")))) [.ret (.cst (.bl false))] []]

theorem Jd.w {p : Pa} {o : Option Str} (h : Jd p o) : o = none ∨ o = some "die" ∨ o = some "rule" ∨ o = some "near" ∨ o = some "far" ∨ o = some "end" := by cases h <;> simp
theorem due_ne {o : Option Str} (h : o = none ∨ o = some "die" ∨ o = some "rule" ∨ o = some "near" ∨ o = some "far" ∨ o = some "end") : cmpD .ne (dueD o) (dueD o) = some false := by
  rcases h with rfl | rfl | rfl | rfl | rfl | rfl <;> decide +kernel
theorem cmp_due {cf : Cfg} {δ : Env} {X : XX} {Q : R → Env → Prop} {x y : R} {o : Option Str} (h : o = none ∨ o = some "die" ∨ o = some "rule" ∨ o = some "near" ∨ o = some "far" ∨ o = some "end") (hx : vw δ x = some (dueD o)) (hy : vw δ y = some (dueD o)) (q : Q (.dat (.bl false)) δ) : Ev (cmpR cf .ne x y) δ Q X := by
  have e := due_ne h
  unfold Ev cmpR
  rw [hx, hy]
  cases o with
  | none => exact q
  | some w =>
    dsimp only [dueD] at e ⊢
    rw [e]
    exact q
theorem k02_B {cf : Cfg} {F : Nat} {ns : List Int} (h3 : Kn cf "_law_with" S_law_withG) (h5 : Kn cf "_law_refused" S_law_refused) (h6 : Kn cf "_law_notes" S_law_notes) (h7 : Kn cf "_law_ends" S_law_ends)
    {r : Rc} (hr : DR r) {p : Pa} {o : Option Str} (hj : Jd p o) {row : D} (hd : IsRow ns row) {k : Int} {y6 : B} (o6 : OD (paD p) y6) {x0 x2 x3 x8 x9 x10 : Option B} {Q : Fl → Env → Prop} {X : XX}
    (q : ∀ row' x5 x6 x7 x10, IsRow ns row' → Q .nx [x0, some (.own row'), x2, x3, some (.dat (.int k)), x5, x6, x7, x8, x9, x10]) :
    Ev (evSs cf F (keepOf [false]) k02B) [x0, some (.own row), x2, x3, some (.dat (.int k)), some (.dat (lawD r)), some y6, some (.dat (dueD o)), x8, x9, x10] Q X := by
  obtain ⟨f3, g3, m3, s3⟩ := h3
  obtain ⟨f5, g5, m5, s5⟩ := h5
  obtain ⟨f6, g6, s6⟩ := h6
  obtain ⟨f7, g7, m7, s7⟩ := h7
  have fl : flatD (dueD o) = true := by cases o <;> rfl
  have key : Ev (evSs cf F (keepOf [false]) (k02B.drop 1)) [x0, some (.own row), x2, x3, some (.dat (.int k)), some (.dat (lawD r)), some y6, some (.dat (dueD o)), x8, x9, x10] Q X := by
    simp -implicitDefEqProofs -dsimp [k02B, g3, g6]
    refine ev_notes s6 (by simp) hd fun l1 d1 n1 hd1 => ?_
    simp -implicitDefEqProofs -dsimp [g6]
    refine ev_notes s6 (by simp) hd1 fun l2 d2 n2 hd2 => ?_
    simp -implicitDefEqProofs -dsimp
    have w : f3.sem [lawD r, .lst [.tup [.str "far", ntsD l1], .tup [.str "near", ntsD l2]]] = some (.ret true (lawD { r with near := l2, far := l1 }) []) := s3 [(.inr "die", dieD r.die), (.inr "rule", .str r.rule.s), (.inr "near", ntsD r.near), (.inr "far", ntsD r.far)] [("far", ntsD l1), ("near", ntsD l2)] (by simp)
    refine ev_call_frz (ds := [lawD r, .lst [.tup [.str "far", ntsD l1], .tup [.str "near", ntsD l2]]]) (by simp [m3]) (by simp) w rfl ?_
    obtain ⟨rl, e2⟩ : ∃ rl : Rul, atI [D.str "stay", .str "bounce"] (k.fmod 2) = some (.str rl.s) := by
      have : k.fmod 2 = 0 ∨ k.fmod 2 = 1 := by
        have h1 := Int.fmod_nonneg_of_pos k (show (0 : Int) < 2 by omega)
        have h2 := Int.fmod_lt_of_pos k (show (0 : Int) < 2 by omega)
        omega
      rcases this with h | h
      · rw [h]; exact ⟨.stay, rfl⟩
      · rw [h]; exact ⟨.bounce, rfl⟩
    simp -implicitDefEqProofs -dsimp [e2, g5]
    have v0 : RV ⟨r.die, rl, l2, l1⟩ := RV.of hr.vd n2.vn n1.vn
    cases hE : lawEndsB ⟨r.die, rl, l2, l1⟩ (leastL ⟨r.die, rl, l2, l1⟩)
    · have hj2 : Jd (ofR ⟨r.die, rl, l2, l1⟩) (some "end") := .ends ⟨r.die, rl, l2, l1⟩ hr.vd n2.vn n1.vn fun z => by
        rw [(ends_iff v0 (Int.le_refl _)).mpr z] at hE
        cases hE
      refine ev_call_flat (ds := [lawD ⟨r.die, rl, l2, l1⟩]) (by simp [m5]) (by simp) (s5 _ _ hj2) rfl ?_
      simp -implicitDefEqProofs -dsimp [g7]
      refine ev_call_flat (ds := [lawD ⟨r.die, rl, l2, l1⟩]) (by simp [m7]) (by simp) (s7 _ v0) rfl ?_
      simp -implicitDefEqProofs -dsimp [hE]
      refine cmp_due hj2.w (by simp) (by simp [dueD, scD]) ?_
      simp -implicitDefEqProofs -dsimp
      exact q d2 _ _ _ _ hd2
    · have hj2 : Jd (ofR ⟨r.die, rl, l2, l1⟩) none := .ok ⟨r.die, rl, l2, l1⟩ hr.vd n2.vn n1.vn ((ends_iff v0 (Int.le_refl _)).mp hE)
      refine ev_call_flat (ds := [lawD ⟨r.die, rl, l2, l1⟩]) (by simp [m5]) (by simp) (s5 _ _ hj2) rfl ?_
      simp -implicitDefEqProofs -dsimp [g7]
      refine ev_call_flat (ds := [lawD ⟨r.die, rl, l2, l1⟩]) (by simp [m7]) (by simp) (s7 _ v0) rfl ?_
      simp -implicitDefEqProofs -dsimp [hE]
      refine cmp_due hj2.w (by simp) (by simp [dueD, scD]) ?_
      simp -implicitDefEqProofs -dsimp
      exact q d2 _ _ _ _ hd2
  rcases o6 with rfl | rfl
  all_goals
    simp -implicitDefEqProofs -dsimp [k02B, g5]
    refine ev_call_flat (ds := [paD p]) (by simp [m5]) (by simp) (s5 p o hj) fl ?_
    simp -implicitDefEqProofs -dsimp
    refine cmp_due hj.w (by simp) (by simp) ?_
    simp -implicitDefEqProofs -dsimp
    simpa [k02B] using key

theorem k02_F {cf : Cfg} {F : Nat} {ns : List Int} (h2 : Kn cf "_law_taken" S_taken) (h3 : Kn cf "_law_with" S_law_withG) (h4 : Kn cf "_law_odd_notes" S_law_odd_notes)
    {r : Rc} (hr : DR r) {row : D} (hd : IsRow ns row) {y2 y3 y6 : B} (o2 : OD (.lst oddDice) y2) (o3 : OD (.lst oddRules) y3) (o6 : OD (paD (ofR r)) y6) {x0 x4 x5 x8 x9 x10 : Option B} {Q : Fl → Env → Prop} {X : XX}
    (q : ∀ row' p o y6 x8 x9, IsRow ns row' → Jd p o → OD (paD p) y6 → Q .nx [x0, some (.own row'), some (.dat (.lst oddDice)), some (.dat (.lst oddRules)), x4, x5, some y6, some (.dat (dueD o)), x8, x9, x10]) :
    Ev (evSs cf F (keepOf [false]) k02F) [x0, some (.own row), some y2, some y3, x4, x5, some y6, some (.dat .non), x8, x9, x10] Q X := by
  have k1 : ¬ keepG (keepOf [false]) (.one 8) = true := by decide
  have key : ∀ {Q : Fl → Env → Prop}, (∀ row' p o y6 x8 x9, IsRow ns row' → Jd p o → OD (paD p) y6 → Q .nx [x0, some (.own row'), some (.dat (.lst oddDice)), some (.dat (.lst oddRules)), x4, x5, some y6, some (.dat (dueD o)), x8, x9, x10]) →
      Ev (frM (keepOf [false]) (.one 8) (evSs cf F (keepOf [false]) k02In) [.str "far", .str "near", .str "rule", .str "die"]) [x0, some (.own row), some y2, some y3, x4, x5, some y6, some (.dat (dueD none)), x8, x9, x10] Q X := by
    intro Q q
    rw [ev_frM_cons, if_neg k1]
    show Ev _ _ _ _
    refine k02_far h2 h3 h4 hd o2 o3 o6 fun r1 p1 o1 z1 w1 i1 j1 h1 => ?_
    dsimp only
    rw [ev_frM_cons, if_neg k1]
    show Ev _ _ _ _
    refine k02_near h2 h3 h4 i1 od_dat od_dat j1 fun r2 p2 o2 z2 w2 i2 j2 h2' => ?_
    dsimp only
    rw [ev_frM_cons, if_neg k1]
    show Ev _ _ _ _
    refine k02_rule h2 h3 h4 i2 od_dat od_dat j2 fun r3 p3 o3 z3 w3 i3 j3 h3' => ?_
    dsimp only
    rw [ev_frM_cons, if_neg k1]
    show Ev _ _ _ _
    refine k02_die h2 h3 h4 i3 od_dat od_dat j3 fun r4 p4 o4 z4 w4 i4 j4 h4' => ?_
    dsimp only
    rw [ev_frM_nil]
    exact q r4 p4 o4 z4 _ _ i4 (jd_turns hr.vd hr.near.vn hr.far.vn hr.ends h1 h2' h3' h4') j4
  unfold k02F
  simp -implicitDefEqProofs -dsimp [scD]
  exact key q
theorem k02_run {cf : Cfg} {F : Nat} (h1 : Kn cf "_law_drawn" S_law_drawn) (h2 : Kn cf "_law_taken" S_taken) (h3 : Kn cf "_law_with" S_law_withG) (h4 : Kn cf "_law_odd_notes" S_law_odd_notes) (h5 : Kn cf "_law_refused" S_law_refused) (h6 : Kn cf "_law_notes" S_law_notes) (h7 : Kn cf "_law_ends" S_law_ends) (ns : List Int) :
    (FI.mk [false] (run cf F [false] 11 m_law)).sem [.scr (ns.map .int)] = some (.ret false (.bl true) []) := by
  obtain ⟨f1, g1, s1⟩ := h1
  obtain ⟨f3, g3, m3, s3⟩ := id h3
  obtain ⟨f5, g5, m5, s5⟩ := id h5
  apply fi_eq rfl
  have r5 : rngOk 5 = true := by decide +kernel
  have e1 : binD .mul (.tup [.int 1]) (.int 7) = some (.dat (.tup [.int 1, .int 1, .int 1, .int 1, .int 1, .int 1, .int 1])) := by rfl
  simp -implicitDefEqProofs -dsimp [m_law, r5, range0, e1, scD, negD]
  refine ev_frM_map (fun rem δ => ∃ x1 y2 y3 x4 x5 x6 x7 x8 x9 x10, δ = [some (.dat (.scr (ns.map .int))), some (.own x1), some y2, some y3, x4, x5, x6, x7, x8, x9, x10] ∧ IsRow ns x1 ∧ OD (.lst oddDice) y2 ∧ OD (.lst oddRules) y3) (by simp) ⟨_, _, _, none, none, none, none, none, none, none, rfl, IsRow.init ns 32 (by decide) (by decide), od_own, od_own⟩ ?_ ?_
  · rintro k rem δ ⟨x1, y2, y3, x4, x5, x6, x7, x8, x9, x10, rfl, hd, o2, o3⟩
    refine ⟨_, by simp; rfl, ?_⟩
    show Ev (evSs cf F (keepOf [false]) (k02A ++ (k02F ++ k02B))) _ _ _
    rw [ev_ss_app]
    simp -implicitDefEqProofs -dsimp [k02A, g1]
    refine ev_drawn s1 (by simp) hd fun r d1 hr hd1 => ?_
    have hj : Jd (ofR r) none := .ok r hr.vd hr.near.vn hr.far.vn hr.ends
    have w : f3.sem [lawD r, .lst []] = some (.ret true (lawD r) []) := s3 [(.inr "die", dieD r.die), (.inr "rule", .str r.rule.s), (.inr "near", ntsD r.near), (.inr "far", ntsD r.far)] [] (by simp)
    simp -implicitDefEqProofs -dsimp [g5]
    refine ev_call_flat (ds := [lawD r]) (by simp [m5]) (by simp) (s5 (ofR r) none hj) rfl ?_
    simp -implicitDefEqProofs -dsimp [dueD, g3]
    refine ev_call_frz (ds := [lawD r, .lst []]) (by simp [m3]) (by simp) w rfl ?_
    simp -implicitDefEqProofs -dsimp [scD]
    rw [ev_ss_app]
    refine k02_F h2 h3 h4 hr hd1 o2 o3 od_own fun row' p o y6 x8 x9 hd2 hj2 o6 => ?_
    refine k02_B h3 h5 h6 h7 hr hj2 hd2 o6 fun row3 x5 x6 x7 x10 hd3 => ?_
    exact ⟨row3, _, _, ⟨_, _, _, _, _, _, _, rfl⟩, hd3, od_dat, od_dat⟩
  · rintro δ ⟨x1, y2, y3, x4, x5, x6, x7, x8, x9, x10, rfl, hd, o2, o3⟩
    have hj : Jd (ofR rcStuck) (some "end") := .ends rcStuck (by constructor <;> first | (simp [rcStuck]; done) | decide +kernel) (by constructor <;> simp [rcStuck]) (by constructor <;> simp [rcStuck]) stuck_no
    have w := s5 _ _ hj
    simp -implicitDefEqProofs -dsimp [g5, scD]
    refine ev_call_flat (ds := [paD (ofR rcStuck)]) (by simp [m5]) rfl w rfl ?_
    have e9 : eqD (.str "end") (.str "end") = some true := by decide +kernel
    simp -implicitDefEqProofs -dsimp [dueD, e9]
theorem cfH_of {cf : Cfg} {F : Nat} {es : List Ent} (c : CfH cf) : CfH (cfgOf cf F es) := by
  have e1 := cfgOf_hcl (F := F) (es := es) (cf := cf)
  have e2 := cfgOf_exm (F := F) (es := es) (cf := cf)
  exact { toCfX := cfX_of c.toCfX, hc := by rw [e1]; exact c.hc, ex := by rw [e2]; exact c.ex }
end Rl

set_option Elab.async false
set_option linter.all false
set_option maxRecDepth 100000
set_option maxHeartbeats 0
namespace Rl
open PySem L2
def top (i : Nat) : Stmt := PySem.Challenge.pw_racelengths_k02_races_refused.main.body.getD i (.Pass ⟨0, 0, 0, 0⟩)
def ownC : List Str := ["Race"]
abbrev s_is_whole : Stmt := top 8
abbrev n_is_whole : List Str := ["value"]
theorem k_is_whole : all2 (okS n_is_whole ownC 60 (defScope s_is_whole)) m_is_whole (defBody s_is_whole) = true := by decide +kernel
abbrev e_is_whole : Ent := ⟨.fn "is_whole", "is_whole", "is_whole", s_is_whole, n_is_whole, ["value"], [false], m_is_whole⟩
theorem o_is_whole : EntOk ownC e_is_whole := ⟨⟨rfl, rfl, rfl, by decide +kernel, rfl, by decide +kernel, by decide +kernel⟩, rfl, by decide, 60, k_is_whole⟩
abbrev s_is_within : Stmt := top 9
abbrev n_is_within : List Str := ["value", "low", "high"]
theorem k_is_within : all2 (okS n_is_within ownC 60 (defScope s_is_within)) m_is_within (defBody s_is_within) = true := by decide +kernel
abbrev e_is_within : Ent := ⟨.fn "is_within", "is_within", "is_within", s_is_within, n_is_within, ["value", "low", "high"], [false, false, false], m_is_within⟩
theorem o_is_within : EntOk ownC e_is_within := ⟨⟨rfl, rfl, rfl, by decide +kernel, rfl, by decide +kernel, by decide +kernel⟩, rfl, by decide, 60, k_is_within⟩
abbrev s_is_note : Stmt := top 21
abbrev n_is_note : List Str := ["value"]
theorem k_is_note : all2 (okS n_is_note ownC 60 (defScope s_is_note)) m_is_note (defBody s_is_note) = true := by decide +kernel
abbrev e_is_note : Ent := ⟨.fn "is_note", "is_note", "is_note", s_is_note, n_is_note, ["value"], [false], m_is_note⟩
theorem o_is_note : EntOk ownC e_is_note := ⟨⟨rfl, rfl, rfl, by decide +kernel, rfl, by decide +kernel, by decide +kernel⟩, rfl, by decide, 60, k_is_note⟩
abbrev s_are_notes : Stmt := top 22
abbrev n_are_notes : List Str := ["value", "places", "note", "one", "other"]
theorem k_are_notes : all2 (okS n_are_notes ownC 60 (defScope s_are_notes)) m_are_notes (defBody s_are_notes) = true := by decide +kernel
abbrev e_are_notes : Ent := ⟨.fn "are_notes", "are_notes", "are_notes", s_are_notes, n_are_notes, ["value"], [false], m_are_notes⟩
theorem o_are_notes : EntOk ownC e_are_notes := ⟨⟨rfl, rfl, rfl, by decide +kernel, rfl, by decide +kernel, by decide +kernel⟩, rfl, by decide, 60, k_are_notes⟩
abbrev s_common : Stmt := top 10
abbrev n_common : List Str := ["one", "other"]
theorem k_common : all2 (okS n_common ownC 60 (defScope s_common)) m_common (defBody s_common) = true := by decide +kernel
abbrev e_common : Ent := ⟨.fn "common", "common", "common", s_common, n_common, ["one", "other"], [false, false], m_common⟩
theorem o_common : EntOk ownC e_common := ⟨⟨rfl, rfl, rfl, by decide +kernel, rfl, by decide +kernel, by decide +kernel⟩, rfl, by decide, 60, k_common⟩
abbrev s_fraction : Stmt := top 11
abbrev n_fraction : List Str := ["number", "parts", "divisor"]
theorem k_fraction : all2 (okS n_fraction ownC 60 (defScope s_fraction)) m_fraction (defBody s_fraction) = true := by decide +kernel
abbrev e_fraction : Ent := ⟨.fn "fraction", "fraction", "fraction", s_fraction, n_fraction, ["number", "parts"], [false, false], m_fraction⟩
theorem o_fraction : EntOk ownC e_fraction := ⟨⟨rfl, rfl, rfl, by decide +kernel, rfl, by decide +kernel, by decide +kernel⟩, rfl, by decide, 60, k_fraction⟩
abbrev s_faces_of : Stmt := top 25
abbrev n_faces_of : List Str := ["race", "at", "share"]
theorem k_faces_of : all2 (okS n_faces_of ownC 60 (defScope s_faces_of)) m_faces_of (defBody s_faces_of) = true := by decide +kernel
abbrev e_faces_of : Ent := ⟨.fn "faces_of", "faces_of", "faces_of", s_faces_of, n_faces_of, ["race"], [false], m_faces_of⟩
theorem o_faces_of : EntOk ownC e_faces_of := ⟨⟨rfl, rfl, rfl, by decide +kernel, rfl, by decide +kernel, by decide +kernel⟩, rfl, by decide, 60, k_faces_of⟩
abbrev s_far_behind : Stmt := top 28
abbrev n_far_behind : List Str := ["race", "distance", "face", "left"]
theorem k_far_behind : all2 (okS n_far_behind ownC 60 (defScope s_far_behind)) m_far_behind (defBody s_far_behind) = true := by decide +kernel
abbrev e_far_behind : Ent := ⟨.fn "far_behind", "far_behind", "far_behind", s_far_behind, n_far_behind, ["race", "distance", "face"], [false, false, false], m_far_behind⟩
theorem o_far_behind : EntOk ownC e_far_behind := ⟨⟨rfl, rfl, rfl, by decide +kernel, rfl, by decide +kernel, by decide +kernel⟩, rfl, by decide, 60, k_far_behind⟩
abbrev s_far_nexts : Stmt := top 31
abbrev n_far_nexts : List Str := ["race", "distance", "found", "face", "left"]
theorem k_far_nexts : all2 (okS n_far_nexts ownC 60 (defScope s_far_nexts)) m_far_nexts (defBody s_far_nexts) = true := by decide +kernel
abbrev e_far_nexts : Ent := ⟨.fn "far_nexts", "far_nexts", "far_nexts", s_far_nexts, n_far_nexts, ["race", "distance"], [false, false], m_far_nexts⟩
theorem o_far_nexts : EntOk ownC e_far_nexts := ⟨⟨rfl, rfl, rfl, by decide +kernel, rfl, by decide +kernel, by decide +kernel⟩, rfl, by decide, 60, k_far_nexts⟩
abbrev s_greatest_in : Stmt := top 23
abbrev n_greatest_in : List Str := ["notes", "note"]
theorem k_greatest_in : all2 (okS n_greatest_in ownC 60 (defScope s_greatest_in)) m_greatest_in (defBody s_greatest_in) = true := by decide +kernel
abbrev e_greatest_in : Ent := ⟨.fn "greatest_in", "greatest_in", "greatest_in", s_greatest_in, n_greatest_in, ["notes"], [false], m_greatest_in⟩
theorem o_greatest_in : EntOk ownC e_greatest_in := ⟨⟨rfl, rfl, rfl, by decide +kernel, rfl, by decide +kernel, by decide +kernel⟩, rfl, by decide, 60, k_greatest_in⟩
abbrev s_far_size : Stmt := top 27
abbrev n_far_size : List Str := ["race"]
theorem k_far_size : all2 (okS n_far_size ownC 60 (defScope s_far_size)) m_far_size (defBody s_far_size) = true := by decide +kernel
abbrev e_far_size : Ent := ⟨.fn "far_size", "far_size", "far_size", s_far_size, n_far_size, ["race"], [false], m_far_size⟩
theorem o_far_size : EntOk ownC e_far_size := ⟨⟨rfl, rfl, rfl, by decide +kernel, rfl, by decide +kernel, by decide +kernel⟩, rfl, by decide, 60, k_far_size⟩
abbrev s_near_behind : Stmt := top 29
abbrev n_near_behind : List Str := ["race", "place", "face"]
theorem k_near_behind : all2 (okS n_near_behind ownC 60 (defScope s_near_behind)) m_near_behind (defBody s_near_behind) = true := by decide +kernel
abbrev e_near_behind : Ent := ⟨.fn "near_behind", "near_behind", "near_behind", s_near_behind, n_near_behind, ["race", "place", "face"], [false, false, false], m_near_behind⟩
theorem o_near_behind : EntOk ownC e_near_behind := ⟨⟨rfl, rfl, rfl, by decide +kernel, rfl, by decide +kernel, by decide +kernel⟩, rfl, by decide, 60, k_near_behind⟩
abbrev s_near_size : Stmt := top 26
abbrev n_near_size : List Str := ["race"]
theorem k_near_size : all2 (okS n_near_size ownC 60 (defScope s_near_size)) m_near_size (defBody s_near_size) = true := by decide +kernel
abbrev e_near_size : Ent := ⟨.fn "near_size", "near_size", "near_size", s_near_size, n_near_size, ["race"], [false], m_near_size⟩
theorem o_near_size : EntOk ownC e_near_size := ⟨⟨rfl, rfl, rfl, by decide +kernel, rfl, by decide +kernel, by decide +kernel⟩, rfl, by decide, 60, k_near_size⟩
abbrev s_near_nexts : Stmt := top 30
abbrev n_near_nexts : List Str := ["race", "place", "face"]
theorem k_near_nexts : all2 (okS n_near_nexts ownC 60 (defScope s_near_nexts)) m_near_nexts (defBody s_near_nexts) = true := by decide +kernel
abbrev e_near_nexts : Ent := ⟨.fn "near_nexts", "near_nexts", "near_nexts", s_near_nexts, n_near_nexts, ["race", "place"], [false, false], m_near_nexts⟩
theorem o_near_nexts : EntOk ownC e_near_nexts := ⟨⟨rfl, rfl, rfl, by decide +kernel, rfl, by decide +kernel, by decide +kernel⟩, rfl, by decide, 60, k_near_nexts⟩
abbrev s_ways_from : Stmt := top 32
abbrev n_ways_from : List Str := ["race", "begin", "nexts", "seen", "waiting", "there"]
theorem k_ways_from : all2 (okS n_ways_from ownC 60 (defScope s_ways_from)) m_ways_from (defBody s_ways_from) = true := by decide +kernel
abbrev e_ways_from : Ent := ⟨.fn "ways_from", "ways_from", "ways_from", s_ways_from, n_ways_from, ["race", "begin", "nexts"], [false, false, false], m_ways_from⟩
theorem o_ways_from : EntOk ownC e_ways_from := ⟨⟨rfl, rfl, rfl, by decide +kernel, rfl, by decide +kernel, by decide +kernel⟩, rfl, by decide, 60, k_ways_from⟩
abbrev s_has_end : Stmt := top 33
abbrev n_has_end : List Str := ["race", "near", "far", "place", "distance", "there"]
theorem k_has_end : all2 (okS n_has_end ownC 60 (defScope s_has_end)) m_has_end (defBody s_has_end) = true := by decide +kernel
abbrev e_has_end : Ent := ⟨.fn "has_end", "has_end", "has_end", s_has_end, n_has_end, ["race"], [false], m_has_end⟩
theorem o_has_end : EntOk ownC e_has_end := ⟨⟨rfl, rfl, rfl, by decide +kernel, rfl, by decide +kernel, by decide +kernel⟩, rfl, by decide, 60, k_has_end⟩
abbrev s_is_die : Stmt := top 20
abbrev n_is_die : List Str := ["value", "divisor", "at", "share"]
theorem k_is_die : all2 (okS n_is_die ownC 60 (defScope s_is_die)) m_is_die (defBody s_is_die) = true := by decide +kernel
abbrev e_is_die : Ent := ⟨.fn "is_die", "is_die", "is_die", s_is_die, n_is_die, ["value"], [false], m_is_die⟩
theorem o_is_die : EntOk ownC e_is_die := ⟨⟨rfl, rfl, rfl, by decide +kernel, rfl, by decide +kernel, by decide +kernel⟩, rfl, by decide, 60, k_is_die⟩
abbrev s_Race_init : Stmt := inClass (top 24) 0
abbrev n_Race_init : List Str := ["self", "die", "rule", "near", "far", "kind", "notes", "share", "note"]
theorem k_Race_init : all2 (okS n_Race_init ownC 60 (defScope s_Race_init)) m_Race_init (defBody s_Race_init) = true := by decide +kernel
abbrev e_Race_init : Ent := ⟨.ini "Race", "__init__", "Race.__init__", s_Race_init, n_Race_init, ["self", "die", "rule", "near", "far"], [true, false, false, false, false], m_Race_init⟩
theorem o_Race_init : EntOk ownC e_Race_init := ⟨⟨rfl, rfl, rfl, by decide +kernel, rfl, by decide +kernel, by decide +kernel⟩, rfl, by decide, 60, k_Race_init⟩
abbrev s_Race_die : Stmt := inClass (top 24) 1
abbrev n_Race_die : List Str := ["self"]
theorem k_Race_die : all2 (okS n_Race_die ownC 60 (defScope s_Race_die)) m_Race_die (defBody s_Race_die) = true := by decide +kernel
abbrev e_Race_die : Ent := ⟨.prp "Race" "die", "die", "Race.die", s_Race_die, n_Race_die, ["self"], [false], m_Race_die⟩
theorem o_Race_die : EntOk ownC e_Race_die := ⟨⟨rfl, rfl, rfl, by decide +kernel, rfl, by decide +kernel, by decide +kernel⟩, rfl, by decide, 60, k_Race_die⟩
abbrev s_Race_rule : Stmt := inClass (top 24) 2
abbrev n_Race_rule : List Str := ["self"]
theorem k_Race_rule : all2 (okS n_Race_rule ownC 60 (defScope s_Race_rule)) m_Race_rule (defBody s_Race_rule) = true := by decide +kernel
abbrev e_Race_rule : Ent := ⟨.prp "Race" "rule", "rule", "Race.rule", s_Race_rule, n_Race_rule, ["self"], [false], m_Race_rule⟩
theorem o_Race_rule : EntOk ownC e_Race_rule := ⟨⟨rfl, rfl, rfl, by decide +kernel, rfl, by decide +kernel, by decide +kernel⟩, rfl, by decide, 60, k_Race_rule⟩
abbrev s_Race_near : Stmt := inClass (top 24) 3
abbrev n_Race_near : List Str := ["self"]
theorem k_Race_near : all2 (okS n_Race_near ownC 60 (defScope s_Race_near)) m_Race_near (defBody s_Race_near) = true := by decide +kernel
abbrev e_Race_near : Ent := ⟨.prp "Race" "near", "near", "Race.near", s_Race_near, n_Race_near, ["self"], [false], m_Race_near⟩
theorem o_Race_near : EntOk ownC e_Race_near := ⟨⟨rfl, rfl, rfl, by decide +kernel, rfl, by decide +kernel, by decide +kernel⟩, rfl, by decide, 60, k_Race_near⟩
abbrev s_Race_far : Stmt := inClass (top 24) 4
abbrev n_Race_far : List Str := ["self"]
theorem k_Race_far : all2 (okS n_Race_far ownC 60 (defScope s_Race_far)) m_Race_far (defBody s_Race_far) = true := by decide +kernel
abbrev e_Race_far : Ent := ⟨.prp "Race" "far", "far", "Race.far", s_Race_far, n_Race_far, ["self"], [false], m_Race_far⟩
theorem o_Race_far : EntOk ownC e_Race_far := ⟨⟨rfl, rfl, rfl, by decide +kernel, rfl, by decide +kernel, by decide +kernel⟩, rfl, by decide, 60, k_Race_far⟩
abbrev s_Race_eq : Stmt := inClass (top 24) 6
abbrev n_Race_eq : List Str := ["self", "other"]
theorem k_Race_eq : all2 (okS n_Race_eq ownC 60 (defScope s_Race_eq)) m_Race_eq (defBody s_Race_eq) = true := by decide +kernel
abbrev e_Race_eq : Ent := ⟨.mth "Race" "__eq__", "__eq__", "Race.__eq__", s_Race_eq, n_Race_eq, ["self", "other"], [false, false], m_Race_eq⟩
theorem o_Race_eq : EntOk ownC e_Race_eq := ⟨⟨rfl, rfl, rfl, by decide +kernel, rfl, by decide +kernel, by decide +kernel⟩, rfl, by decide, 60, k_Race_eq⟩
abbrev s_law_taken : Stmt := top 35
abbrev n_law_taken : List Str := ["_law_row", "_law_many", "_law_found", "_law_cell"]
theorem k_law_taken : all2 (okS n_law_taken ownC 60 (defScope s_law_taken)) m_law_taken (defBody s_law_taken) = true := by decide +kernel
abbrev e_law_taken : Ent := ⟨.fn "_law_taken", "_law_taken", "_law_taken", s_law_taken, n_law_taken, ["_law_row", "_law_many"], [true, false], m_law_taken⟩
theorem o_law_taken : EntOk ownC e_law_taken := ⟨⟨rfl, rfl, rfl, by decide +kernel, rfl, by decide +kernel, by decide +kernel⟩, rfl, by decide, 60, k_law_taken⟩
abbrev s_law_notes : Stmt := top 36
abbrev n_law_notes : List Str := ["_law_row", "_law_found", "_law_place", "_law_word", "_law_number", "_law_places", "_law_note"]
theorem k_law_notes : all2 (okS n_law_notes ownC 60 (defScope s_law_notes)) m_law_notes (defBody s_law_notes) = true := by decide +kernel
abbrev e_law_notes : Ent := ⟨.fn "_law_notes", "_law_notes", "_law_notes", s_law_notes, n_law_notes, ["_law_row"], [true], m_law_notes⟩
theorem o_law_notes : EntOk ownC e_law_notes := ⟨⟨rfl, rfl, rfl, by decide +kernel, rfl, by decide +kernel, by decide +kernel⟩, rfl, by decide, 60, k_law_notes⟩
abbrev s_law_faces : Stmt := top 43
abbrev n_law_faces : List Str := ["_law_d", "_law_k"]
theorem k_law_faces : all2 (okS n_law_faces ownC 60 (defScope s_law_faces)) m_law_faces (defBody s_law_faces) = true := by decide +kernel
abbrev e_law_faces : Ent := ⟨.fn "_law_faces", "_law_faces", "_law_faces", s_law_faces, n_law_faces, ["_law_d"], [false], m_law_faces⟩
theorem o_law_faces : EntOk ownC e_law_faces := ⟨⟨rfl, rfl, rfl, by decide +kernel, rfl, by decide +kernel, by decide +kernel⟩, rfl, by decide, 60, k_law_faces⟩
abbrev s_law_most : Stmt := top 39
abbrev n_law_most : List Str := ["_law_notes_here", "_law_found", "_law_note"]
theorem k_law_most : all2 (okS n_law_most ownC 60 (defScope s_law_most)) m_law_most (defBody s_law_most) = true := by decide +kernel
abbrev e_law_most : Ent := ⟨.fn "_law_most", "_law_most", "_law_most", s_law_most, n_law_most, ["_law_notes_here"], [false], m_law_most⟩
theorem o_law_most : EntOk ownC e_law_most := ⟨⟨rfl, rfl, rfl, by decide +kernel, rfl, by decide +kernel, by decide +kernel⟩, rfl, by decide, 60, k_law_most⟩
abbrev s_law_least : Stmt := top 40
abbrev n_law_least : List Str := ["_law_d"]
theorem k_law_least : all2 (okS n_law_least ownC 60 (defScope s_law_least)) m_law_least (defBody s_law_least) = true := by decide +kernel
abbrev e_law_least : Ent := ⟨.fn "_law_least", "_law_least", "_law_least", s_law_least, n_law_least, ["_law_d"], [false], m_law_least⟩
theorem o_law_least : EntOk ownC e_law_least := ⟨⟨rfl, rfl, rfl, by decide +kernel, rfl, by decide +kernel, by decide +kernel⟩, rfl, by decide, 60, k_law_least⟩
abbrev s_law_next : Stmt := top 42
abbrev n_law_next : List Str := ["_law_d", "_law_n", "_law_spots_here", "_law_place", "_law_face", "_law_there"]
theorem k_law_next : all2 (okS n_law_next ownC 60 (defScope s_law_next)) m_law_next (defBody s_law_next) = true := by decide +kernel
abbrev e_law_next : Ent := ⟨.fn "_law_next", "_law_next", "_law_next", s_law_next, n_law_next, ["_law_d", "_law_n", "_law_spots_here", "_law_place", "_law_face"], [false, false, false, false, false], m_law_next⟩
theorem o_law_next : EntOk ownC e_law_next := ⟨⟨rfl, rfl, rfl, by decide +kernel, rfl, by decide +kernel, by decide +kernel⟩, rfl, by decide, 60, k_law_next⟩
abbrev s_law_spots : Stmt := top 41
abbrev n_law_spots : List Str := ["_law_d", "_law_n", "_law_goes", "_law_waits", "_law_note"]
theorem k_law_spots : all2 (okS n_law_spots ownC 60 (defScope s_law_spots)) m_law_spots (defBody s_law_spots) = true := by decide +kernel
abbrev e_law_spots : Ent := ⟨.fn "_law_spots", "_law_spots", "_law_spots", s_law_spots, n_law_spots, ["_law_d", "_law_n"], [false, false], m_law_spots⟩
theorem o_law_spots : EntOk ownC e_law_spots := ⟨⟨rfl, rfl, rfl, by decide +kernel, rfl, by decide +kernel, by decide +kernel⟩, rfl, by decide, 60, k_law_spots⟩
abbrev s_law_ends : Stmt := top 44
abbrev n_law_ends : List Str := ["_law_d", "_law_n", "_law_spots_here", "_law_good", "_law_turn", "_law_place", "_law_some", "_law_face", "_law_one"]
theorem k_law_ends : all2 (okS n_law_ends ownC 60 (defScope s_law_ends)) m_law_ends (defBody s_law_ends) = true := by decide +kernel
abbrev e_law_ends : Ent := ⟨.fn "_law_ends", "_law_ends", "_law_ends", s_law_ends, n_law_ends, ["_law_d"], [false], m_law_ends⟩
theorem o_law_ends : EntOk ownC e_law_ends := ⟨⟨rfl, rfl, rfl, by decide +kernel, rfl, by decide +kernel, by decide +kernel⟩, rfl, by decide, 60, k_law_ends⟩
abbrev s_law_drawn : Stmt := top 37
abbrev n_law_drawn : List Str := ["_law_row", "_law_dice", "_law_die", "_law_rule", "_law_d"]
theorem k_law_drawn : all2 (okS n_law_drawn ownC 60 (defScope s_law_drawn)) m_law_drawn (defBody s_law_drawn) = true := by decide +kernel
abbrev e_law_drawn : Ent := ⟨.fn "_law_drawn", "_law_drawn", "_law_drawn", s_law_drawn, n_law_drawn, ["_law_row"], [true], m_law_drawn⟩
theorem o_law_drawn : EntOk ownC e_law_drawn := ⟨⟨rfl, rfl, rfl, by decide +kernel, rfl, by decide +kernel, by decide +kernel⟩, rfl, by decide, 60, k_law_drawn⟩
abbrev s_law_with : Stmt := top 38
abbrev n_law_with : List Str := ["_law_d", "_law_pairs", "_law_found", "_law_part", "_law_value"]
theorem k_law_with : all2 (okS n_law_with ownC 60 (defScope s_law_with)) m_law_with (defBody s_law_with) = true := by decide +kernel
abbrev e_law_with : Ent := ⟨.fn "_law_with", "_law_with", "_law_with", s_law_with, n_law_with, ["_law_d", "_law_pairs"], [false, false], m_law_with⟩
theorem o_law_with : EntOk ownC e_law_with := ⟨⟨rfl, rfl, rfl, by decide +kernel, rfl, by decide +kernel, by decide +kernel⟩, rfl, by decide, 60, k_law_with⟩
abbrev s_law_made : Stmt := top 45
abbrev n_law_made : List Str := ["_law_d"]
theorem k_law_made : all2 (okS n_law_made ownC 60 (defScope s_law_made)) m_law_made (defBody s_law_made) = true := by decide +kernel
abbrev e_law_made : Ent := ⟨.fn "_law_made", "_law_made", "_law_made", s_law_made, n_law_made, ["_law_d"], [false], m_law_made⟩
theorem o_law_made : EntOk ownC e_law_made := ⟨⟨rfl, rfl, rfl, by decide +kernel, rfl, by decide +kernel, by decide +kernel⟩, rfl, by decide, 60, k_law_made⟩
abbrev s_law_refused : Stmt := top 46
abbrev n_law_refused : List Str := ["_law_d", "_law_told", "_law_e"]
theorem k_law_refused : all2 (okS n_law_refused ownC 60 (defScope s_law_refused)) m_law_refused (defBody s_law_refused) = true := by decide +kernel
abbrev e_law_refused : Ent := ⟨.fn "_law_refused", "_law_refused", "_law_refused", s_law_refused, n_law_refused, ["_law_d"], [false], m_law_refused⟩
theorem o_law_refused : EntOk ownC e_law_refused := ⟨⟨rfl, rfl, rfl, by decide +kernel, rfl, by decide +kernel, by decide +kernel⟩, rfl, by decide, 60, k_law_refused⟩
abbrev s_law_odd_notes : Stmt := top 47
abbrev n_law_odd_notes : List Str := ["_law_found"]
theorem k_law_odd_notes : all2 (okS n_law_odd_notes ownC 60 (defScope s_law_odd_notes)) m_law_odd_notes (defBody s_law_odd_notes) = true := by decide +kernel
abbrev e_law_odd_notes : Ent := ⟨.fn "_law_odd_notes", "_law_odd_notes", "_law_odd_notes", s_law_odd_notes, n_law_odd_notes, [], [], m_law_odd_notes⟩
theorem o_law_odd_notes : EntOk ownC e_law_odd_notes := ⟨⟨rfl, rfl, rfl, by decide +kernel, rfl, by decide +kernel, by decide +kernel⟩, rfl, by decide, 60, k_law_odd_notes⟩
abbrev s_law : Stmt := top 48
abbrev n_law : List Str := ["_law_script", "_law_row", "_law_dice", "_law_rules", "_law_turn", "_law_d", "_law_odd", "_law_due", "_law_part", "_law_some", "_law_e"]
theorem k_law : all2 (okS n_law ownC 60 (defScope s_law)) m_law (defBody s_law) = true := by decide +kernel
abbrev e_law : Ent := ⟨.fn "law", "law", "law", s_law, n_law, ["_law_script"], [false], m_law⟩
theorem o_law : EntOk ownC e_law := ⟨⟨rfl, rfl, rfl, by decide +kernel, rfl, by decide +kernel, by decide +kernel⟩, rfl, by decide, 60, k_law⟩
def ents : List Ent := [e_is_whole, e_is_within, e_is_note, e_are_notes, e_common, e_fraction, e_faces_of, e_far_behind, e_far_nexts, e_greatest_in, e_far_size, e_near_behind, e_near_size, e_near_nexts, e_ways_from, e_has_end, e_is_die, e_Race_init, e_Race_die, e_Race_rule, e_Race_near, e_Race_far, e_Race_eq, e_law_taken, e_law_notes, e_law_faces, e_law_most, e_law_least, e_law_next, e_law_spots, e_law_ends, e_law_drawn, e_law_with, e_law_made, e_law_refused, e_law_odd_notes]
theorem ents_ok : ∀ e ∈ ents, EntOk ownC e := by
  intro e he
  simp only [ents, List.mem_cons, List.not_mem_nil, or_false] at he
  rcases he with rfl | rfl | rfl | rfl | rfl | rfl | rfl | rfl | rfl | rfl | rfl | rfl | rfl | rfl | rfl | rfl | rfl | rfl | rfl | rfl | rfl | rfl | rfl | rfl | rfl | rfl | rfl | rfl | rfl | rfl | rfl | rfl | rfl | rfl | rfl | rfl
  · exact o_is_whole
  · exact o_is_within
  · exact o_is_note
  · exact o_are_notes
  · exact o_common
  · exact o_fraction
  · exact o_faces_of
  · exact o_far_behind
  · exact o_far_nexts
  · exact o_greatest_in
  · exact o_far_size
  · exact o_near_behind
  · exact o_near_size
  · exact o_near_nexts
  · exact o_ways_from
  · exact o_has_end
  · exact o_is_die
  · exact o_Race_init
  · exact o_Race_die
  · exact o_Race_rule
  · exact o_Race_near
  · exact o_Race_far
  · exact o_Race_eq
  · exact o_law_taken
  · exact o_law_notes
  · exact o_law_faces
  · exact o_law_most
  · exact o_law_least
  · exact o_law_next
  · exact o_law_spots
  · exact o_law_ends
  · exact o_law_drawn
  · exact o_law_with
  · exact o_law_made
  · exact o_law_refused
  · exact o_law_odd_notes
def exT : List (Str × Str × Bool) := [("InvalidDie", "InvalidDie", true), ("InvalidDie", "InvalidRule", false), ("InvalidDie", "InvalidPlaces", false), ("InvalidDie", "NoEnd", false), ("InvalidRule", "InvalidDie", false), ("InvalidRule", "InvalidRule", true), ("InvalidRule", "InvalidPlaces", false), ("InvalidRule", "NoEnd", false), ("NoEnd", "InvalidDie", false), ("NoEnd", "InvalidRule", false), ("NoEnd", "InvalidPlaces", false), ("NoEnd", "NoEnd", true), ("InvalidPlaces", "InvalidDie", false), ("InvalidPlaces", "InvalidRule", false), ("InvalidPlaces", "InvalidPlaces", true), ("InvalidPlaces", "NoEnd", false)]
def c0 : Cfg := { fns := fun _ => none, glb := fun x => if x = "MOST_FACES" then some (.int 6) else if x = "MOST_SHARE" then some (.int 99) else if x = "MOST_PLACE" then some (.int 6) else if x = "MOST_WAIT" then some (.int 3) else if x = "RULES" then some (.ctp [.str "bounce", .str "done", .str "stay"]) else if x = "GO" then some (.str "go") else if x = "WAIT" then some (.str "wait") else none, mth := fun _ _ => none, prp := fun _ _ => none, ini := fun _ => none, exc := fun c => if c = "InvalidDie" then some [] else if c = "InvalidRule" then some [] else if c = "NoEnd" then some [] else if c = "InvalidPlaces" then some ["kind"] else none, flds := fun c => if c = "Race" then some ["shares", "word", "starts", "tails", "chances", "goes", "pauses"] else none, hcl := fun c => decide (c ∈ (["InvalidDie", "InvalidRule", "InvalidPlaces", "NoEnd"] : List Str)), exm := exF exT }
def cfA : Cfg := cfgOf c0 100000 ents
abbrev s_InvalidDie_init : Stmt := inClass (top 3) 0
theorem i_InvalidDie_init : IniTx [] s_InvalidDie_init := ⟨⟨rfl, rfl, rfl, by decide +kernel, rfl, by decide +kernel, by decide +kernel⟩, by decide +kernel, by decide +kernel, by decide +kernel, by decide +kernel⟩
abbrev s_InvalidRule_init : Stmt := inClass (top 4) 0
theorem i_InvalidRule_init : IniTx [] s_InvalidRule_init := ⟨⟨rfl, rfl, rfl, by decide +kernel, rfl, by decide +kernel, by decide +kernel⟩, by decide +kernel, by decide +kernel, by decide +kernel, by decide +kernel⟩
abbrev s_NoEnd_init : Stmt := inClass (top 6) 0
theorem i_NoEnd_init : IniTx [] s_NoEnd_init := ⟨⟨rfl, rfl, rfl, by decide +kernel, rfl, by decide +kernel, by decide +kernel⟩, by decide +kernel, by decide +kernel, by decide +kernel, by decide +kernel⟩
abbrev s_InvalidPlaces_init : Stmt := inClass (top 5) 0
theorem i_InvalidPlaces_init : IniTx ["kind"] s_InvalidPlaces_init := ⟨⟨rfl, rfl, rfl, by decide +kernel, rfl, by decide +kernel, by decide +kernel⟩, by decide +kernel, by decide +kernel, by decide +kernel, by decide +kernel⟩
theorem all_mk {P : Program} {w : World} {K : PySem.W.Frag} {h : Heap} {mg : Str → Option Value} {fa : Addr} (X : K.In h) (G : h.Ns mainGlobals mg) (hfa : mg "law" = some (.ref fa))
    {BB : Addr}
    {f1 : Addr} {od1 an1 : Option Addr} {sl1 : Array (Option Value)} {oc1 kV1 dc1 pm1 cd1 ct1 : Value}
    {f2 : Addr} {od2 an2 : Option Addr} {sl2 : Array (Option Value)} {oc2 kV2 dc2 pm2 cd2 ct2 : Value}
    {f3 : Addr} {od3 an3 : Option Addr} {sl3 : Array (Option Value)} {oc3 kV3 dc3 pm3 cd3 ct3 : Value}
    {f4 : Addr} {od4 an4 : Option Addr} {sl4 : Array (Option Value)} {oc4 kV4 dc4 pm4 cd4 ct4 : Value}
    {f5 : Addr} {od5 an5 : Option Addr} {sl5 : Array (Option Value)} {oc5 kV5 dc5 pm5 cd5 ct5 : Value}
    {f6 : Addr} {od6 an6 : Option Addr} {sl6 : Array (Option Value)} {oc6 kV6 dc6 pm6 cd6 ct6 : Value}
    {f7 : Addr} {od7 an7 : Option Addr} {sl7 : Array (Option Value)} {oc7 kV7 dc7 pm7 cd7 ct7 : Value}
    {f8 : Addr} {od8 an8 : Option Addr} {sl8 : Array (Option Value)} {oc8 kV8 dc8 pm8 cd8 ct8 : Value}
    {f9 : Addr} {od9 an9 : Option Addr} {sl9 : Array (Option Value)} {oc9 kV9 dc9 pm9 cd9 ct9 : Value}
    {f10 : Addr} {od10 an10 : Option Addr} {sl10 : Array (Option Value)} {oc10 kV10 dc10 pm10 cd10 ct10 : Value}
    {f11 : Addr} {od11 an11 : Option Addr} {sl11 : Array (Option Value)} {oc11 kV11 dc11 pm11 cd11 ct11 : Value}
    {f12 : Addr} {od12 an12 : Option Addr} {sl12 : Array (Option Value)} {oc12 kV12 dc12 pm12 cd12 ct12 : Value}
    {f13 : Addr} {od13 an13 : Option Addr} {sl13 : Array (Option Value)} {oc13 kV13 dc13 pm13 cd13 ct13 : Value}
    {f14 : Addr} {od14 an14 : Option Addr} {sl14 : Array (Option Value)} {oc14 kV14 dc14 pm14 cd14 ct14 : Value}
    {f15 : Addr} {od15 an15 : Option Addr} {sl15 : Array (Option Value)} {oc15 kV15 dc15 pm15 cd15 ct15 : Value}
    {f16 : Addr} {od16 an16 : Option Addr} {sl16 : Array (Option Value)} {oc16 kV16 dc16 pm16 cd16 ct16 : Value}
    {f17 : Addr} {od17 an17 : Option Addr} {sl17 : Array (Option Value)} {oc17 kV17 dc17 pm17 cd17 ct17 : Value}
    {f18 : Addr} {od18 an18 : Option Addr} {sl18 : Array (Option Value)} {oc18 kV18 dc18 pm18 cd18 ct18 : Value}
    {f19 p19 : Addr} {od19 an19 : Option Addr} {sl19 : Array (Option Value)} {oc19 kV19 dc19 pm19 cd19 ct19 : Value} {rest19 : List Value}
    {f20 p20 : Addr} {od20 an20 : Option Addr} {sl20 : Array (Option Value)} {oc20 kV20 dc20 pm20 cd20 ct20 : Value} {rest20 : List Value}
    {f21 p21 : Addr} {od21 an21 : Option Addr} {sl21 : Array (Option Value)} {oc21 kV21 dc21 pm21 cd21 ct21 : Value} {rest21 : List Value}
    {f22 p22 : Addr} {od22 an22 : Option Addr} {sl22 : Array (Option Value)} {oc22 kV22 dc22 pm22 cd22 ct22 : Value} {rest22 : List Value}
    {f23 : Addr} {od23 an23 : Option Addr} {sl23 : Array (Option Value)} {oc23 kV23 dc23 pm23 cd23 ct23 : Value}
    {f24 : Addr} {od24 an24 : Option Addr} {sl24 : Array (Option Value)} {oc24 kV24 dc24 pm24 cd24 ct24 : Value}
    {f25 : Addr} {od25 an25 : Option Addr} {sl25 : Array (Option Value)} {oc25 kV25 dc25 pm25 cd25 ct25 : Value}
    {f26 : Addr} {od26 an26 : Option Addr} {sl26 : Array (Option Value)} {oc26 kV26 dc26 pm26 cd26 ct26 : Value}
    {f27 : Addr} {od27 an27 : Option Addr} {sl27 : Array (Option Value)} {oc27 kV27 dc27 pm27 cd27 ct27 : Value}
    {f28 : Addr} {od28 an28 : Option Addr} {sl28 : Array (Option Value)} {oc28 kV28 dc28 pm28 cd28 ct28 : Value}
    {f29 : Addr} {od29 an29 : Option Addr} {sl29 : Array (Option Value)} {oc29 kV29 dc29 pm29 cd29 ct29 : Value}
    {f30 : Addr} {od30 an30 : Option Addr} {sl30 : Array (Option Value)} {oc30 kV30 dc30 pm30 cd30 ct30 : Value}
    {f31 : Addr} {od31 an31 : Option Addr} {sl31 : Array (Option Value)} {oc31 kV31 dc31 pm31 cd31 ct31 : Value}
    {f32 : Addr} {od32 an32 : Option Addr} {sl32 : Array (Option Value)} {oc32 kV32 dc32 pm32 cd32 ct32 : Value}
    {f33 : Addr} {od33 an33 : Option Addr} {sl33 : Array (Option Value)} {oc33 kV33 dc33 pm33 cd33 ct33 : Value}
    {f34 : Addr} {od34 an34 : Option Addr} {sl34 : Array (Option Value)} {oc34 kV34 dc34 pm34 cd34 ct34 : Value}
    {f35 : Addr} {od35 an35 : Option Addr} {sl35 : Array (Option Value)} {oc35 kV35 dc35 pm35 cd35 ct35 : Value}
    {f36 : Addr} {od36 an36 : Option Addr} {sl36 : Array (Option Value)} {oc36 kV36 dc36 pm36 cd36 ct36 : Value}
    {f37 : Addr} {od37 an37 : Option Addr} {sl37 : Array (Option Value)} {oc37 kV37 dc37 pm37 cd37 ct37 : Value}
    {C1 : Addr}
    {tg0 : Tok}
    {tg1 : Tok}
    {tg2 : Tok}
    {tg3 : Tok}
    {g4_a : Addr} {g4_d : Option Addr} {g4_n : Nat} {g4_s : Array (Option Value)} {tk4_0 tk4_1 tk4_2 : Tok}
    {tg5 : Tok}
    {tg6 : Tok}
    {X1 iX1 : Addr} {nmX1 qX1 : Str} {NX1 : Addr} {bsX1 : List Value} {snX1 : List Str} {subX1 : List Value} {abX1 : Bool} {colX1 : Option Bool} {ddX1 odX1 anX1 : Option Addr} {m0X1 m1X1 m2X1 m3X1 m5X1 : Option Value} {slX1 : Array (Option Value)} {ocX1 kVX1 dcX1 pmX1 cdX1 ctX1 : Value}
    {X2 iX2 : Addr} {nmX2 qX2 : Str} {NX2 : Addr} {bsX2 : List Value} {snX2 : List Str} {subX2 : List Value} {abX2 : Bool} {colX2 : Option Bool} {ddX2 odX2 anX2 : Option Addr} {m0X2 m1X2 m2X2 m3X2 m5X2 : Option Value} {slX2 : Array (Option Value)} {ocX2 kVX2 dcX2 pmX2 cdX2 ctX2 : Value}
    {X3 iX3 : Addr} {nmX3 qX3 : Str} {NX3 : Addr} {bsX3 : List Value} {snX3 : List Str} {subX3 : List Value} {abX3 : Bool} {colX3 : Option Bool} {ddX3 odX3 anX3 : Option Addr} {m0X3 m1X3 m2X3 m3X3 m5X3 : Option Value} {slX3 : Array (Option Value)} {ocX3 kVX3 dcX3 pmX3 cdX3 ctX3 : Value}
    {X4 iX4 : Addr} {nmX4 qX4 : Str} {NX4 : Addr} {bsX4 : List Value} {snX4 : List Str} {subX4 : List Value} {abX4 : Bool} {colX4 : Option Bool} {ddX4 odX4 anX4 : Option Addr} {m0X4 m1X4 m2X4 m3X4 m5X4 : Option Value} {slX4 : Array (Option Value)} {ocX4 kVX4 dcX4 pmX4 cdX4 ctX4 : Value}
    (mCC1 : PySem.W.nsIn K mainGlobals "Race" = some (some (.ref C1)))
    (a1 : PySem.W.nsIn K mainGlobals "is_whole" = some (some (.ref f1)))
    (l1 : K.lookup f1 = some ⟨oc1, od1, .func (PySem.W.fnOf "is_whole" "is_whole" (defArgs s_is_whole) (defBody s_is_whole) (defScope s_is_whole) .none kV1 dc1 pm1 an1 cd1 ct1), sl1⟩)
    (c1 : PySem.W.codeIn K cd1 "is_whole" = true)
    (k1 : PySem.W.keepIn K (.ref f1) = true)
    (a2 : PySem.W.nsIn K mainGlobals "is_within" = some (some (.ref f2)))
    (l2 : K.lookup f2 = some ⟨oc2, od2, .func (PySem.W.fnOf "is_within" "is_within" (defArgs s_is_within) (defBody s_is_within) (defScope s_is_within) .none kV2 dc2 pm2 an2 cd2 ct2), sl2⟩)
    (c2 : PySem.W.codeIn K cd2 "is_within" = true)
    (k2 : PySem.W.keepIn K (.ref f2) = true)
    (a3 : PySem.W.nsIn K mainGlobals "is_note" = some (some (.ref f3)))
    (l3 : K.lookup f3 = some ⟨oc3, od3, .func (PySem.W.fnOf "is_note" "is_note" (defArgs s_is_note) (defBody s_is_note) (defScope s_is_note) .none kV3 dc3 pm3 an3 cd3 ct3), sl3⟩)
    (c3 : PySem.W.codeIn K cd3 "is_note" = true)
    (k3 : PySem.W.keepIn K (.ref f3) = true)
    (a4 : PySem.W.nsIn K mainGlobals "are_notes" = some (some (.ref f4)))
    (l4 : K.lookup f4 = some ⟨oc4, od4, .func (PySem.W.fnOf "are_notes" "are_notes" (defArgs s_are_notes) (defBody s_are_notes) (defScope s_are_notes) .none kV4 dc4 pm4 an4 cd4 ct4), sl4⟩)
    (c4 : PySem.W.codeIn K cd4 "are_notes" = true)
    (k4 : PySem.W.keepIn K (.ref f4) = true)
    (a5 : PySem.W.nsIn K mainGlobals "common" = some (some (.ref f5)))
    (l5 : K.lookup f5 = some ⟨oc5, od5, .func (PySem.W.fnOf "common" "common" (defArgs s_common) (defBody s_common) (defScope s_common) .none kV5 dc5 pm5 an5 cd5 ct5), sl5⟩)
    (c5 : PySem.W.codeIn K cd5 "common" = true)
    (k5 : PySem.W.keepIn K (.ref f5) = true)
    (a6 : PySem.W.nsIn K mainGlobals "fraction" = some (some (.ref f6)))
    (l6 : K.lookup f6 = some ⟨oc6, od6, .func (PySem.W.fnOf "fraction" "fraction" (defArgs s_fraction) (defBody s_fraction) (defScope s_fraction) .none kV6 dc6 pm6 an6 cd6 ct6), sl6⟩)
    (c6 : PySem.W.codeIn K cd6 "fraction" = true)
    (k6 : PySem.W.keepIn K (.ref f6) = true)
    (a7 : PySem.W.nsIn K mainGlobals "faces_of" = some (some (.ref f7)))
    (l7 : K.lookup f7 = some ⟨oc7, od7, .func (PySem.W.fnOf "faces_of" "faces_of" (defArgs s_faces_of) (defBody s_faces_of) (defScope s_faces_of) .none kV7 dc7 pm7 an7 cd7 ct7), sl7⟩)
    (c7 : PySem.W.codeIn K cd7 "faces_of" = true)
    (k7 : PySem.W.keepIn K (.ref f7) = true)
    (a8 : PySem.W.nsIn K mainGlobals "far_behind" = some (some (.ref f8)))
    (l8 : K.lookup f8 = some ⟨oc8, od8, .func (PySem.W.fnOf "far_behind" "far_behind" (defArgs s_far_behind) (defBody s_far_behind) (defScope s_far_behind) .none kV8 dc8 pm8 an8 cd8 ct8), sl8⟩)
    (c8 : PySem.W.codeIn K cd8 "far_behind" = true)
    (k8 : PySem.W.keepIn K (.ref f8) = true)
    (a9 : PySem.W.nsIn K mainGlobals "far_nexts" = some (some (.ref f9)))
    (l9 : K.lookup f9 = some ⟨oc9, od9, .func (PySem.W.fnOf "far_nexts" "far_nexts" (defArgs s_far_nexts) (defBody s_far_nexts) (defScope s_far_nexts) .none kV9 dc9 pm9 an9 cd9 ct9), sl9⟩)
    (c9 : PySem.W.codeIn K cd9 "far_nexts" = true)
    (k9 : PySem.W.keepIn K (.ref f9) = true)
    (a10 : PySem.W.nsIn K mainGlobals "greatest_in" = some (some (.ref f10)))
    (l10 : K.lookup f10 = some ⟨oc10, od10, .func (PySem.W.fnOf "greatest_in" "greatest_in" (defArgs s_greatest_in) (defBody s_greatest_in) (defScope s_greatest_in) .none kV10 dc10 pm10 an10 cd10 ct10), sl10⟩)
    (c10 : PySem.W.codeIn K cd10 "greatest_in" = true)
    (k10 : PySem.W.keepIn K (.ref f10) = true)
    (a11 : PySem.W.nsIn K mainGlobals "far_size" = some (some (.ref f11)))
    (l11 : K.lookup f11 = some ⟨oc11, od11, .func (PySem.W.fnOf "far_size" "far_size" (defArgs s_far_size) (defBody s_far_size) (defScope s_far_size) .none kV11 dc11 pm11 an11 cd11 ct11), sl11⟩)
    (c11 : PySem.W.codeIn K cd11 "far_size" = true)
    (k11 : PySem.W.keepIn K (.ref f11) = true)
    (a12 : PySem.W.nsIn K mainGlobals "near_behind" = some (some (.ref f12)))
    (l12 : K.lookup f12 = some ⟨oc12, od12, .func (PySem.W.fnOf "near_behind" "near_behind" (defArgs s_near_behind) (defBody s_near_behind) (defScope s_near_behind) .none kV12 dc12 pm12 an12 cd12 ct12), sl12⟩)
    (c12 : PySem.W.codeIn K cd12 "near_behind" = true)
    (k12 : PySem.W.keepIn K (.ref f12) = true)
    (a13 : PySem.W.nsIn K mainGlobals "near_size" = some (some (.ref f13)))
    (l13 : K.lookup f13 = some ⟨oc13, od13, .func (PySem.W.fnOf "near_size" "near_size" (defArgs s_near_size) (defBody s_near_size) (defScope s_near_size) .none kV13 dc13 pm13 an13 cd13 ct13), sl13⟩)
    (c13 : PySem.W.codeIn K cd13 "near_size" = true)
    (k13 : PySem.W.keepIn K (.ref f13) = true)
    (a14 : PySem.W.nsIn K mainGlobals "near_nexts" = some (some (.ref f14)))
    (l14 : K.lookup f14 = some ⟨oc14, od14, .func (PySem.W.fnOf "near_nexts" "near_nexts" (defArgs s_near_nexts) (defBody s_near_nexts) (defScope s_near_nexts) .none kV14 dc14 pm14 an14 cd14 ct14), sl14⟩)
    (c14 : PySem.W.codeIn K cd14 "near_nexts" = true)
    (k14 : PySem.W.keepIn K (.ref f14) = true)
    (a15 : PySem.W.nsIn K mainGlobals "ways_from" = some (some (.ref f15)))
    (l15 : K.lookup f15 = some ⟨oc15, od15, .func (PySem.W.fnOf "ways_from" "ways_from" (defArgs s_ways_from) (defBody s_ways_from) (defScope s_ways_from) .none kV15 dc15 pm15 an15 cd15 ct15), sl15⟩)
    (c15 : PySem.W.codeIn K cd15 "ways_from" = true)
    (k15 : PySem.W.keepIn K (.ref f15) = true)
    (a16 : PySem.W.nsIn K mainGlobals "has_end" = some (some (.ref f16)))
    (l16 : K.lookup f16 = some ⟨oc16, od16, .func (PySem.W.fnOf "has_end" "has_end" (defArgs s_has_end) (defBody s_has_end) (defScope s_has_end) .none kV16 dc16 pm16 an16 cd16 ct16), sl16⟩)
    (c16 : PySem.W.codeIn K cd16 "has_end" = true)
    (k16 : PySem.W.keepIn K (.ref f16) = true)
    (a17 : PySem.W.nsIn K mainGlobals "is_die" = some (some (.ref f17)))
    (l17 : K.lookup f17 = some ⟨oc17, od17, .func (PySem.W.fnOf "is_die" "is_die" (defArgs s_is_die) (defBody s_is_die) (defScope s_is_die) .none kV17 dc17 pm17 an17 cd17 ct17), sl17⟩)
    (c17 : PySem.W.codeIn K cd17 "is_die" = true)
    (k17 : PySem.W.keepIn K (.ref f17) = true)
    (a18 : PySem.W.findIn K (.ref C1) "__init__" = some (some (.ref f18)))
    (i18 : PySem.W.isFn K (.ref f18) = true)
    (l18 : K.lookup f18 = some ⟨oc18, od18, .func (PySem.W.fnOf "__init__" "Race.__init__" (defArgs s_Race_init) (defBody s_Race_init) (defScope s_Race_init) .none kV18 dc18 pm18 an18 cd18 ct18), sl18⟩)
    (c18 : PySem.W.codeIn K cd18 "Race.__init__" = true)
    (k18 : PySem.W.keepIn K (.ref f18) = true)
    (a19 : PySem.W.findIn K (.ref C1) "die" = some (some (.ref p19)))
    (g19 : PySem.W.specialIn K (.ref p19) "__get__" = some (some (.builtin "property.__get__")))
    (t19 : PySem.W.takesIn K (.ref p19) = some true)
    (r19 : PySem.W.recIn K p19 "property" = some (.ref f19 :: rest19))
    (l19 : K.lookup f19 = some ⟨oc19, od19, .func (PySem.W.fnOf "die" "Race.die" (defArgs s_Race_die) (defBody s_Race_die) (defScope s_Race_die) .none kV19 dc19 pm19 an19 cd19 ct19), sl19⟩)
    (c19 : PySem.W.codeIn K cd19 "Race.die" = true)
    (k19 : PySem.W.keepIn K (.ref f19) = true)
    (a20 : PySem.W.findIn K (.ref C1) "rule" = some (some (.ref p20)))
    (g20 : PySem.W.specialIn K (.ref p20) "__get__" = some (some (.builtin "property.__get__")))
    (t20 : PySem.W.takesIn K (.ref p20) = some true)
    (r20 : PySem.W.recIn K p20 "property" = some (.ref f20 :: rest20))
    (l20 : K.lookup f20 = some ⟨oc20, od20, .func (PySem.W.fnOf "rule" "Race.rule" (defArgs s_Race_rule) (defBody s_Race_rule) (defScope s_Race_rule) .none kV20 dc20 pm20 an20 cd20 ct20), sl20⟩)
    (c20 : PySem.W.codeIn K cd20 "Race.rule" = true)
    (k20 : PySem.W.keepIn K (.ref f20) = true)
    (a21 : PySem.W.findIn K (.ref C1) "near" = some (some (.ref p21)))
    (g21 : PySem.W.specialIn K (.ref p21) "__get__" = some (some (.builtin "property.__get__")))
    (t21 : PySem.W.takesIn K (.ref p21) = some true)
    (r21 : PySem.W.recIn K p21 "property" = some (.ref f21 :: rest21))
    (l21 : K.lookup f21 = some ⟨oc21, od21, .func (PySem.W.fnOf "near" "Race.near" (defArgs s_Race_near) (defBody s_Race_near) (defScope s_Race_near) .none kV21 dc21 pm21 an21 cd21 ct21), sl21⟩)
    (c21 : PySem.W.codeIn K cd21 "Race.near" = true)
    (k21 : PySem.W.keepIn K (.ref f21) = true)
    (a22 : PySem.W.findIn K (.ref C1) "far" = some (some (.ref p22)))
    (g22 : PySem.W.specialIn K (.ref p22) "__get__" = some (some (.builtin "property.__get__")))
    (t22 : PySem.W.takesIn K (.ref p22) = some true)
    (r22 : PySem.W.recIn K p22 "property" = some (.ref f22 :: rest22))
    (l22 : K.lookup f22 = some ⟨oc22, od22, .func (PySem.W.fnOf "far" "Race.far" (defArgs s_Race_far) (defBody s_Race_far) (defScope s_Race_far) .none kV22 dc22 pm22 an22 cd22 ct22), sl22⟩)
    (c22 : PySem.W.codeIn K cd22 "Race.far" = true)
    (k22 : PySem.W.keepIn K (.ref f22) = true)
    (a23 : PySem.W.findIn K (.ref C1) "__eq__" = some (some (.ref f23)))
    (i23 : PySem.W.isFn K (.ref f23) = true)
    (l23 : K.lookup f23 = some ⟨oc23, od23, .func (PySem.W.fnOf "__eq__" "Race.__eq__" (defArgs s_Race_eq) (defBody s_Race_eq) (defScope s_Race_eq) .none kV23 dc23 pm23 an23 cd23 ct23), sl23⟩)
    (c23 : PySem.W.codeIn K cd23 "Race.__eq__" = true)
    (k23 : PySem.W.keepIn K (.ref f23) = true)
    (a24 : PySem.W.nsIn K mainGlobals "_law_taken" = some (some (.ref f24)))
    (l24 : K.lookup f24 = some ⟨oc24, od24, .func (PySem.W.fnOf "_law_taken" "_law_taken" (defArgs s_law_taken) (defBody s_law_taken) (defScope s_law_taken) .none kV24 dc24 pm24 an24 cd24 ct24), sl24⟩)
    (c24 : PySem.W.codeIn K cd24 "_law_taken" = true)
    (k24 : PySem.W.keepIn K (.ref f24) = true)
    (a25 : PySem.W.nsIn K mainGlobals "_law_notes" = some (some (.ref f25)))
    (l25 : K.lookup f25 = some ⟨oc25, od25, .func (PySem.W.fnOf "_law_notes" "_law_notes" (defArgs s_law_notes) (defBody s_law_notes) (defScope s_law_notes) .none kV25 dc25 pm25 an25 cd25 ct25), sl25⟩)
    (c25 : PySem.W.codeIn K cd25 "_law_notes" = true)
    (k25 : PySem.W.keepIn K (.ref f25) = true)
    (a26 : PySem.W.nsIn K mainGlobals "_law_faces" = some (some (.ref f26)))
    (l26 : K.lookup f26 = some ⟨oc26, od26, .func (PySem.W.fnOf "_law_faces" "_law_faces" (defArgs s_law_faces) (defBody s_law_faces) (defScope s_law_faces) .none kV26 dc26 pm26 an26 cd26 ct26), sl26⟩)
    (c26 : PySem.W.codeIn K cd26 "_law_faces" = true)
    (k26 : PySem.W.keepIn K (.ref f26) = true)
    (a27 : PySem.W.nsIn K mainGlobals "_law_most" = some (some (.ref f27)))
    (l27 : K.lookup f27 = some ⟨oc27, od27, .func (PySem.W.fnOf "_law_most" "_law_most" (defArgs s_law_most) (defBody s_law_most) (defScope s_law_most) .none kV27 dc27 pm27 an27 cd27 ct27), sl27⟩)
    (c27 : PySem.W.codeIn K cd27 "_law_most" = true)
    (k27 : PySem.W.keepIn K (.ref f27) = true)
    (a28 : PySem.W.nsIn K mainGlobals "_law_least" = some (some (.ref f28)))
    (l28 : K.lookup f28 = some ⟨oc28, od28, .func (PySem.W.fnOf "_law_least" "_law_least" (defArgs s_law_least) (defBody s_law_least) (defScope s_law_least) .none kV28 dc28 pm28 an28 cd28 ct28), sl28⟩)
    (c28 : PySem.W.codeIn K cd28 "_law_least" = true)
    (k28 : PySem.W.keepIn K (.ref f28) = true)
    (a29 : PySem.W.nsIn K mainGlobals "_law_next" = some (some (.ref f29)))
    (l29 : K.lookup f29 = some ⟨oc29, od29, .func (PySem.W.fnOf "_law_next" "_law_next" (defArgs s_law_next) (defBody s_law_next) (defScope s_law_next) .none kV29 dc29 pm29 an29 cd29 ct29), sl29⟩)
    (c29 : PySem.W.codeIn K cd29 "_law_next" = true)
    (k29 : PySem.W.keepIn K (.ref f29) = true)
    (a30 : PySem.W.nsIn K mainGlobals "_law_spots" = some (some (.ref f30)))
    (l30 : K.lookup f30 = some ⟨oc30, od30, .func (PySem.W.fnOf "_law_spots" "_law_spots" (defArgs s_law_spots) (defBody s_law_spots) (defScope s_law_spots) .none kV30 dc30 pm30 an30 cd30 ct30), sl30⟩)
    (c30 : PySem.W.codeIn K cd30 "_law_spots" = true)
    (k30 : PySem.W.keepIn K (.ref f30) = true)
    (a31 : PySem.W.nsIn K mainGlobals "_law_ends" = some (some (.ref f31)))
    (l31 : K.lookup f31 = some ⟨oc31, od31, .func (PySem.W.fnOf "_law_ends" "_law_ends" (defArgs s_law_ends) (defBody s_law_ends) (defScope s_law_ends) .none kV31 dc31 pm31 an31 cd31 ct31), sl31⟩)
    (c31 : PySem.W.codeIn K cd31 "_law_ends" = true)
    (k31 : PySem.W.keepIn K (.ref f31) = true)
    (a32 : PySem.W.nsIn K mainGlobals "_law_drawn" = some (some (.ref f32)))
    (l32 : K.lookup f32 = some ⟨oc32, od32, .func (PySem.W.fnOf "_law_drawn" "_law_drawn" (defArgs s_law_drawn) (defBody s_law_drawn) (defScope s_law_drawn) .none kV32 dc32 pm32 an32 cd32 ct32), sl32⟩)
    (c32 : PySem.W.codeIn K cd32 "_law_drawn" = true)
    (k32 : PySem.W.keepIn K (.ref f32) = true)
    (a33 : PySem.W.nsIn K mainGlobals "_law_with" = some (some (.ref f33)))
    (l33 : K.lookup f33 = some ⟨oc33, od33, .func (PySem.W.fnOf "_law_with" "_law_with" (defArgs s_law_with) (defBody s_law_with) (defScope s_law_with) .none kV33 dc33 pm33 an33 cd33 ct33), sl33⟩)
    (c33 : PySem.W.codeIn K cd33 "_law_with" = true)
    (k33 : PySem.W.keepIn K (.ref f33) = true)
    (a34 : PySem.W.nsIn K mainGlobals "_law_made" = some (some (.ref f34)))
    (l34 : K.lookup f34 = some ⟨oc34, od34, .func (PySem.W.fnOf "_law_made" "_law_made" (defArgs s_law_made) (defBody s_law_made) (defScope s_law_made) .none kV34 dc34 pm34 an34 cd34 ct34), sl34⟩)
    (c34 : PySem.W.codeIn K cd34 "_law_made" = true)
    (k34 : PySem.W.keepIn K (.ref f34) = true)
    (a35 : PySem.W.nsIn K mainGlobals "_law_refused" = some (some (.ref f35)))
    (l35 : K.lookup f35 = some ⟨oc35, od35, .func (PySem.W.fnOf "_law_refused" "_law_refused" (defArgs s_law_refused) (defBody s_law_refused) (defScope s_law_refused) .none kV35 dc35 pm35 an35 cd35 ct35), sl35⟩)
    (c35 : PySem.W.codeIn K cd35 "_law_refused" = true)
    (k35 : PySem.W.keepIn K (.ref f35) = true)
    (a36 : PySem.W.nsIn K mainGlobals "_law_odd_notes" = some (some (.ref f36)))
    (l36 : K.lookup f36 = some ⟨oc36, od36, .func (PySem.W.fnOf "_law_odd_notes" "_law_odd_notes" (defArgs s_law_odd_notes) (defBody s_law_odd_notes) (defScope s_law_odd_notes) .none kV36 dc36 pm36 an36 cd36 ct36), sl36⟩)
    (c36 : PySem.W.codeIn K cd36 "_law_odd_notes" = true)
    (k36 : PySem.W.keepIn K (.ref f36) = true)
    (a37 : PySem.W.nsIn K mainGlobals "law" = some (some (.ref f37)))
    (l37 : K.lookup f37 = some ⟨oc37, od37, .func (PySem.W.fnOf "law" "law" (defArgs s_law) (defBody s_law) (defScope s_law) .none kV37 dc37 pm37 an37 cd37 ct37), sl37⟩)
    (c37 : PySem.W.codeIn K cd37 "law" = true)
    (k37 : PySem.W.keepIn K (.ref f37) = true)
    (pgC1 : PySem.W.plainGet K C1 Str.empty = true)
    (hdC1 : PySem.W.hasDictIn K C1 = true)
    (poC1 : PySem.W.plainOver K C1 = true)
    (saC1 : PySem.W.findIn K (.ref C1) "__setattr__" = some (some (.builtin "object.__setattr__")))
    (mkC1 : PySem.W.makesIn K C1 = true)
    (kcC1 : PySem.W.keepIn K (.ref C1) = true)
    (naC1_0 : PySem.W.findIn K (.ref C1) "shares" = some none)
    (naC1_1 : PySem.W.findIn K (.ref C1) "word" = some none)
    (naC1_2 : PySem.W.findIn K (.ref C1) "starts" = some none)
    (naC1_3 : PySem.W.findIn K (.ref C1) "tails" = some none)
    (naC1_4 : PySem.W.findIn K (.ref C1) "chances" = some none)
    (naC1_5 : PySem.W.findIn K (.ref C1) "goes" = some none)
    (naC1_6 : PySem.W.findIn K (.ref C1) "pauses" = some none)
    (isC1 : PySem.W.isClsIn K C1 = true)
    (tyC1 : PySem.W.typeIn K (.ref C1) = some (.type "type"))
    (ktC1_0 : PySem.W.subIn K (.type "NoneType") (.ref C1) = some false)
    (ktC1_1 : PySem.W.subIn K (.type "bool") (.ref C1) = some false)
    (ktC1_2 : PySem.W.subIn K (.type "int") (.ref C1) = some false)
    (ktC1_3 : PySem.W.subIn K (.type "str") (.ref C1) = some false)
    (ktC1_4 : PySem.W.subIn K (.type "tuple") (.ref C1) = some false)
    (ktC1_5 : PySem.W.subIn K (.type "list") (.ref C1) = some false)
    (ktC1_6 : PySem.W.subIn K (.type "dict") (.ref C1) = some false)
    (clC1 : PySem.W.findIn K (.ref C1) "__class__" = some (some (.builtin "object.__class__")))
    (moC1 : PySem.W.mroIn K C1 (.type "object") = some true)
    (neC1 : PySem.W.findIn K (.ref C1) "__ne__" = some (some (.builtin "object.__ne__")))
    (suC1 : PySem.W.subIn K (.type "list") (.ref C1) = some false)
    (gs : PySem.W.specialIn K (.builtin "object.__class__") "__get__" = some (some (.builtin "getset_descriptor.__get__")))
    (ts : PySem.W.takesIn K (.builtin "object.__class__") = some true)
    (b0 : PySem.W.nsIn K mainGlobals "len" = some none)
    (b1 : PySem.W.nsIn K mainGlobals "abs" = some none)
    (b2 : PySem.W.nsIn K mainGlobals "max" = some none)
    (b3 : PySem.W.nsIn K mainGlobals "sum" = some none)
    (b4 : PySem.W.nsIn K mainGlobals "all" = some none)
    (b5 : PySem.W.nsIn K mainGlobals "any" = some none)
    (b6 : PySem.W.nsIn K mainGlobals "list" = some none)
    (b7 : PySem.W.nsIn K mainGlobals "tuple" = some none)
    (b8 : PySem.W.nsIn K mainGlobals "dict" = some none)
    (b9 : PySem.W.nsIn K mainGlobals "int" = some none)
    (b10 : PySem.W.nsIn K mainGlobals "str" = some none)
    (b11 : PySem.W.nsIn K mainGlobals "bool" = some none)
    (b12 : PySem.W.nsIn K mainGlobals "isinstance" = some none)
    (b13 : PySem.W.nsIn K mainGlobals "range" = some none)
    (b14 : PySem.W.nsIn K mainGlobals "enumerate" = some none)
    (b15 : PySem.W.nsIn K mainGlobals "zip" = some none)
    (b16 : PySem.W.nsIn K mainGlobals "set" = some none)
    (G0 : PySem.W.nsIn K mainGlobals "MOST_FACES" = some (some (.int 6 tg0)))
    (G1 : PySem.W.nsIn K mainGlobals "MOST_SHARE" = some (some (.int 99 tg1)))
    (G2 : PySem.W.nsIn K mainGlobals "MOST_PLACE" = some (some (.int 6 tg2)))
    (G3 : PySem.W.nsIn K mainGlobals "MOST_WAIT" = some (some (.int 3 tg3)))
    (G4 : PySem.W.nsIn K mainGlobals "RULES" = some (some (.ref g4_a)))
    (GL4 : K.lookup g4_a = some ⟨.type "tuple", g4_d, .seq #[.str "bounce" tk4_0, .str "done" tk4_1, .str "stay" tk4_2] g4_n, g4_s⟩)
    (G5 : PySem.W.nsIn K mainGlobals "GO" = some (some (.str "go" tg5)))
    (G6 : PySem.W.nsIn K mainGlobals "WAIT" = some (some (.str "wait" tg6)))
    (mBB : PySem.W.nsIn K mainGlobals "RaceError" = some (some (.ref BB)))
    (spBB : PySem.W.specialIn K (.ref BB) "__getattribute__" = some (some (.builtin "type.__getattribute__")))
    (rdBB : PySem.W.readsIn K BB (.type "type") = true)
    (fcBB : PySem.W.findCls K (.ref BB) (.type "type") "__init__" = some (.val (.builtin "ValueError.__init__")))
    (mX1 : PySem.W.nsIn K mainGlobals "InvalidDie" = some (some (.ref X1)))
    (LX1 : K.lookup X1 = some (excClassObj nmX1 qX1 X1 NX1 bsX1 [.ref BB, .type "ValueError", .type "Exception", .type "BaseException", .type "object"] true snX1 subX1 abX1 colX1 ddX1 m0X1 m1X1 m2X1 m3X1 m5X1 "ValueError.__new__"))
    (saX1 : PySem.W.findIn K (.ref X1) "__setattr__" = some (some (.builtin "object.__setattr__")))
    (gaX1 : PySem.W.findIn K (.ref X1) "__getattribute__" = some (some (.builtin "BaseException.__getattribute__")))
    (ggX1 : PySem.W.findIn K (.ref X1) "__getattr__" = some none)
    (inX1 : PySem.W.findIn K (.ref X1) "__init__" = some (some (.ref iX1)))
    (tfX1 : PySem.W.typeIn K (.ref iX1) = some (.type "function"))
    (lX1 : K.lookup iX1 = some ⟨ocX1, odX1, .func (PySem.W.fnOf "__init__" "InvalidDie.__init__" (defArgs s_InvalidDie_init) (defBody s_InvalidDie_init) (defScope s_InvalidDie_init) .none kVX1 dcX1 pmX1 anX1 cdX1 ctX1), slX1⟩)
    (cX1 : PySem.W.codeIn K cdX1 "InvalidDie.__init__" = true)
    (kfX1 : PySem.W.keepIn K (.ref iX1) = true)
    (kcX1 : PySem.W.keepIn K (.ref X1) = true)
    (ecX1 : PySem.W.subIn K (.ref X1) (.type "BaseException") = some true)
    (tyX1 : PySem.W.typeIn K (.ref X1) = some (.type "type"))
    (hdX1 : PySem.W.hasDictIn K X1 = true)
    (icX1 : PySem.W.isClsIn K X1 = true)
    (mX2 : PySem.W.nsIn K mainGlobals "InvalidRule" = some (some (.ref X2)))
    (LX2 : K.lookup X2 = some (excClassObj nmX2 qX2 X2 NX2 bsX2 [.ref BB, .type "ValueError", .type "Exception", .type "BaseException", .type "object"] true snX2 subX2 abX2 colX2 ddX2 m0X2 m1X2 m2X2 m3X2 m5X2 "ValueError.__new__"))
    (saX2 : PySem.W.findIn K (.ref X2) "__setattr__" = some (some (.builtin "object.__setattr__")))
    (gaX2 : PySem.W.findIn K (.ref X2) "__getattribute__" = some (some (.builtin "BaseException.__getattribute__")))
    (ggX2 : PySem.W.findIn K (.ref X2) "__getattr__" = some none)
    (inX2 : PySem.W.findIn K (.ref X2) "__init__" = some (some (.ref iX2)))
    (tfX2 : PySem.W.typeIn K (.ref iX2) = some (.type "function"))
    (lX2 : K.lookup iX2 = some ⟨ocX2, odX2, .func (PySem.W.fnOf "__init__" "InvalidRule.__init__" (defArgs s_InvalidRule_init) (defBody s_InvalidRule_init) (defScope s_InvalidRule_init) .none kVX2 dcX2 pmX2 anX2 cdX2 ctX2), slX2⟩)
    (cX2 : PySem.W.codeIn K cdX2 "InvalidRule.__init__" = true)
    (kfX2 : PySem.W.keepIn K (.ref iX2) = true)
    (kcX2 : PySem.W.keepIn K (.ref X2) = true)
    (ecX2 : PySem.W.subIn K (.ref X2) (.type "BaseException") = some true)
    (tyX2 : PySem.W.typeIn K (.ref X2) = some (.type "type"))
    (hdX2 : PySem.W.hasDictIn K X2 = true)
    (icX2 : PySem.W.isClsIn K X2 = true)
    (mX3 : PySem.W.nsIn K mainGlobals "NoEnd" = some (some (.ref X3)))
    (LX3 : K.lookup X3 = some (excClassObj nmX3 qX3 X3 NX3 bsX3 [.ref BB, .type "ValueError", .type "Exception", .type "BaseException", .type "object"] true snX3 subX3 abX3 colX3 ddX3 m0X3 m1X3 m2X3 m3X3 m5X3 "ValueError.__new__"))
    (saX3 : PySem.W.findIn K (.ref X3) "__setattr__" = some (some (.builtin "object.__setattr__")))
    (gaX3 : PySem.W.findIn K (.ref X3) "__getattribute__" = some (some (.builtin "BaseException.__getattribute__")))
    (ggX3 : PySem.W.findIn K (.ref X3) "__getattr__" = some none)
    (inX3 : PySem.W.findIn K (.ref X3) "__init__" = some (some (.ref iX3)))
    (tfX3 : PySem.W.typeIn K (.ref iX3) = some (.type "function"))
    (lX3 : K.lookup iX3 = some ⟨ocX3, odX3, .func (PySem.W.fnOf "__init__" "NoEnd.__init__" (defArgs s_NoEnd_init) (defBody s_NoEnd_init) (defScope s_NoEnd_init) .none kVX3 dcX3 pmX3 anX3 cdX3 ctX3), slX3⟩)
    (cX3 : PySem.W.codeIn K cdX3 "NoEnd.__init__" = true)
    (kfX3 : PySem.W.keepIn K (.ref iX3) = true)
    (kcX3 : PySem.W.keepIn K (.ref X3) = true)
    (ecX3 : PySem.W.subIn K (.ref X3) (.type "BaseException") = some true)
    (tyX3 : PySem.W.typeIn K (.ref X3) = some (.type "type"))
    (hdX3 : PySem.W.hasDictIn K X3 = true)
    (icX3 : PySem.W.isClsIn K X3 = true)
    (mX4 : PySem.W.nsIn K mainGlobals "InvalidPlaces" = some (some (.ref X4)))
    (LX4 : K.lookup X4 = some (excClassObj nmX4 qX4 X4 NX4 bsX4 [.ref BB, .type "ValueError", .type "Exception", .type "BaseException", .type "object"] true snX4 subX4 abX4 colX4 ddX4 m0X4 m1X4 m2X4 m3X4 m5X4 "ValueError.__new__"))
    (saX4 : PySem.W.findIn K (.ref X4) "__setattr__" = some (some (.builtin "object.__setattr__")))
    (gaX4 : PySem.W.findIn K (.ref X4) "__getattribute__" = some (some (.builtin "BaseException.__getattribute__")))
    (ggX4 : PySem.W.findIn K (.ref X4) "__getattr__" = some none)
    (nbX4_0 : PySem.W.findIn K (.ref X4) "kind" = some none)
    (inX4 : PySem.W.findIn K (.ref X4) "__init__" = some (some (.ref iX4)))
    (tfX4 : PySem.W.typeIn K (.ref iX4) = some (.type "function"))
    (lX4 : K.lookup iX4 = some ⟨ocX4, odX4, .func (PySem.W.fnOf "__init__" "InvalidPlaces.__init__" (defArgs s_InvalidPlaces_init) (defBody s_InvalidPlaces_init) (defScope s_InvalidPlaces_init) .none kVX4 dcX4 pmX4 anX4 cdX4 ctX4), slX4⟩)
    (cX4 : PySem.W.codeIn K cdX4 "InvalidPlaces.__init__" = true)
    (kfX4 : PySem.W.keepIn K (.ref iX4) = true)
    (kcX4 : PySem.W.keepIn K (.ref X4) = true)
    (ecX4 : PySem.W.subIn K (.ref X4) (.type "BaseException") = some true)
    (tyX4 : PySem.W.typeIn K (.ref X4) = some (.type "type"))
    (hdX4 : PySem.W.hasDictIn K X4 = true)
    (icX4 : PySem.W.isClsIn K X4 = true)
    (sbX1_X1 : PySem.W.subIn K (.ref X1) (.ref X1) = some true)
    (sbX1_X2 : PySem.W.subIn K (.ref X1) (.ref X2) = some false)
    (sbX1_X4 : PySem.W.subIn K (.ref X1) (.ref X4) = some false)
    (sbX1_X3 : PySem.W.subIn K (.ref X1) (.ref X3) = some false)
    (sbX2_X1 : PySem.W.subIn K (.ref X2) (.ref X1) = some false)
    (sbX2_X2 : PySem.W.subIn K (.ref X2) (.ref X2) = some true)
    (sbX2_X4 : PySem.W.subIn K (.ref X2) (.ref X4) = some false)
    (sbX2_X3 : PySem.W.subIn K (.ref X2) (.ref X3) = some false)
    (sbX3_X1 : PySem.W.subIn K (.ref X3) (.ref X1) = some false)
    (sbX3_X2 : PySem.W.subIn K (.ref X3) (.ref X2) = some false)
    (sbX3_X4 : PySem.W.subIn K (.ref X3) (.ref X4) = some false)
    (sbX3_X3 : PySem.W.subIn K (.ref X3) (.ref X3) = some true)
    (sbX4_X1 : PySem.W.subIn K (.ref X4) (.ref X1) = some false)
    (sbX4_X2 : PySem.W.subIn K (.ref X4) (.ref X2) = some false)
    (sbX4_X4 : PySem.W.subIn K (.ref X4) (.ref X4) = some true)
    (sbX4_X3 : PySem.W.subIn K (.ref X4) (.ref X3) = some false)
    : ∃ (N : Nm) (fd : FuncData), (∀ (s : Shared) (v : Value), BindsTo s fd ⟨[v], []⟩ [("_law_script", v)]) ∧ ∀ base : Heap, K.In base → base.Ns mainGlobals mg → FnOk P w K mg base (L2.CX P w) (1 + 2 * ents.length + 2) fa fd ["_law_script"] (spOf K N (e_law.fi cfA 100000)) := by
  have e0 := hfa.symm.trans (PySem.W.mg_of X G a37)
  cases e0
  have F1 := fun_mk (st := s_is_whole) l1 c1 k1
  have B1 := F1.binds (ps := ["value"]) fun _ _ _ _ _ _ us hl => match us, hl with | [_], _ => rfl
  have F2 := fun_mk (st := s_is_within) l2 c2 k2
  have B2 := F2.binds (ps := ["value", "low", "high"]) fun _ _ _ _ _ _ us hl => match us, hl with | [_, _, _], _ => rfl
  have F3 := fun_mk (st := s_is_note) l3 c3 k3
  have B3 := F3.binds (ps := ["value"]) fun _ _ _ _ _ _ us hl => match us, hl with | [_], _ => rfl
  have F4 := fun_mk (st := s_are_notes) l4 c4 k4
  have B4 := F4.binds (ps := ["value"]) fun _ _ _ _ _ _ us hl => match us, hl with | [_], _ => rfl
  have F5 := fun_mk (st := s_common) l5 c5 k5
  have B5 := F5.binds (ps := ["one", "other"]) fun _ _ _ _ _ _ us hl => match us, hl with | [_, _], _ => rfl
  have F6 := fun_mk (st := s_fraction) l6 c6 k6
  have B6 := F6.binds (ps := ["number", "parts"]) fun _ _ _ _ _ _ us hl => match us, hl with | [_, _], _ => rfl
  have F7 := fun_mk (st := s_faces_of) l7 c7 k7
  have B7 := F7.binds (ps := ["race"]) fun _ _ _ _ _ _ us hl => match us, hl with | [_], _ => rfl
  have F8 := fun_mk (st := s_far_behind) l8 c8 k8
  have B8 := F8.binds (ps := ["race", "distance", "face"]) fun _ _ _ _ _ _ us hl => match us, hl with | [_, _, _], _ => rfl
  have F9 := fun_mk (st := s_far_nexts) l9 c9 k9
  have B9 := F9.binds (ps := ["race", "distance"]) fun _ _ _ _ _ _ us hl => match us, hl with | [_, _], _ => rfl
  have F10 := fun_mk (st := s_greatest_in) l10 c10 k10
  have B10 := F10.binds (ps := ["notes"]) fun _ _ _ _ _ _ us hl => match us, hl with | [_], _ => rfl
  have F11 := fun_mk (st := s_far_size) l11 c11 k11
  have B11 := F11.binds (ps := ["race"]) fun _ _ _ _ _ _ us hl => match us, hl with | [_], _ => rfl
  have F12 := fun_mk (st := s_near_behind) l12 c12 k12
  have B12 := F12.binds (ps := ["race", "place", "face"]) fun _ _ _ _ _ _ us hl => match us, hl with | [_, _, _], _ => rfl
  have F13 := fun_mk (st := s_near_size) l13 c13 k13
  have B13 := F13.binds (ps := ["race"]) fun _ _ _ _ _ _ us hl => match us, hl with | [_], _ => rfl
  have F14 := fun_mk (st := s_near_nexts) l14 c14 k14
  have B14 := F14.binds (ps := ["race", "place"]) fun _ _ _ _ _ _ us hl => match us, hl with | [_, _], _ => rfl
  have F15 := fun_mk (st := s_ways_from) l15 c15 k15
  have B15 := F15.binds (ps := ["race", "begin", "nexts"]) fun _ _ _ _ _ _ us hl => match us, hl with | [_, _, _], _ => rfl
  have F16 := fun_mk (st := s_has_end) l16 c16 k16
  have B16 := F16.binds (ps := ["race"]) fun _ _ _ _ _ _ us hl => match us, hl with | [_], _ => rfl
  have F17 := fun_mk (st := s_is_die) l17 c17 k17
  have B17 := F17.binds (ps := ["value"]) fun _ _ _ _ _ _ us hl => match us, hl with | [_], _ => rfl
  have F18 := fun_mk (st := s_Race_init) l18 c18 k18
  have B18 := F18.binds (ps := ["self", "die", "rule", "near", "far"]) fun _ _ _ _ _ _ us hl => match us, hl with | [_, _, _, _, _], _ => rfl
  have F19 := fun_mk (st := s_Race_die) l19 c19 k19
  have B19 := F19.binds (ps := ["self"]) fun _ _ _ _ _ _ us hl => match us, hl with | [_], _ => rfl
  have F20 := fun_mk (st := s_Race_rule) l20 c20 k20
  have B20 := F20.binds (ps := ["self"]) fun _ _ _ _ _ _ us hl => match us, hl with | [_], _ => rfl
  have F21 := fun_mk (st := s_Race_near) l21 c21 k21
  have B21 := F21.binds (ps := ["self"]) fun _ _ _ _ _ _ us hl => match us, hl with | [_], _ => rfl
  have F22 := fun_mk (st := s_Race_far) l22 c22 k22
  have B22 := F22.binds (ps := ["self"]) fun _ _ _ _ _ _ us hl => match us, hl with | [_], _ => rfl
  have F23 := fun_mk (st := s_Race_eq) l23 c23 k23
  have B23 := F23.binds (ps := ["self", "other"]) fun _ _ _ _ _ _ us hl => match us, hl with | [_, _], _ => rfl
  have F24 := fun_mk (st := s_law_taken) l24 c24 k24
  have B24 := F24.binds (ps := ["_law_row", "_law_many"]) fun _ _ _ _ _ _ us hl => match us, hl with | [_, _], _ => rfl
  have F25 := fun_mk (st := s_law_notes) l25 c25 k25
  have B25 := F25.binds (ps := ["_law_row"]) fun _ _ _ _ _ _ us hl => match us, hl with | [_], _ => rfl
  have F26 := fun_mk (st := s_law_faces) l26 c26 k26
  have B26 := F26.binds (ps := ["_law_d"]) fun _ _ _ _ _ _ us hl => match us, hl with | [_], _ => rfl
  have F27 := fun_mk (st := s_law_most) l27 c27 k27
  have B27 := F27.binds (ps := ["_law_notes_here"]) fun _ _ _ _ _ _ us hl => match us, hl with | [_], _ => rfl
  have F28 := fun_mk (st := s_law_least) l28 c28 k28
  have B28 := F28.binds (ps := ["_law_d"]) fun _ _ _ _ _ _ us hl => match us, hl with | [_], _ => rfl
  have F29 := fun_mk (st := s_law_next) l29 c29 k29
  have B29 := F29.binds (ps := ["_law_d", "_law_n", "_law_spots_here", "_law_place", "_law_face"]) fun _ _ _ _ _ _ us hl => match us, hl with | [_, _, _, _, _], _ => rfl
  have F30 := fun_mk (st := s_law_spots) l30 c30 k30
  have B30 := F30.binds (ps := ["_law_d", "_law_n"]) fun _ _ _ _ _ _ us hl => match us, hl with | [_, _], _ => rfl
  have F31 := fun_mk (st := s_law_ends) l31 c31 k31
  have B31 := F31.binds (ps := ["_law_d"]) fun _ _ _ _ _ _ us hl => match us, hl with | [_], _ => rfl
  have F32 := fun_mk (st := s_law_drawn) l32 c32 k32
  have B32 := F32.binds (ps := ["_law_row"]) fun _ _ _ _ _ _ us hl => match us, hl with | [_], _ => rfl
  have F33 := fun_mk (st := s_law_with) l33 c33 k33
  have B33 := F33.binds (ps := ["_law_d", "_law_pairs"]) fun _ _ _ _ _ _ us hl => match us, hl with | [_, _], _ => rfl
  have F34 := fun_mk (st := s_law_made) l34 c34 k34
  have B34 := F34.binds (ps := ["_law_d"]) fun _ _ _ _ _ _ us hl => match us, hl with | [_], _ => rfl
  have F35 := fun_mk (st := s_law_refused) l35 c35 k35
  have B35 := F35.binds (ps := ["_law_d"]) fun _ _ _ _ _ _ us hl => match us, hl with | [_], _ => rfl
  have F36 := fun_mk (st := s_law_odd_notes) l36 c36 k36
  have B36 := F36.binds (ps := []) fun _ _ _ _ _ _ us hl => match us, hl with | [], _ => rfl
  have F37 := fun_mk (st := s_law) l37 c37 k37
  have B37 := F37.binds (ps := ["_law_script"]) fun _ _ _ _ _ _ us hl => match us, hl with | [_], _ => rfl
  let N : Nm := ⟨fun c => if c = "Race" then some C1 else if c = "InvalidDie" then some X1 else if c = "InvalidRule" then some X2 else if c = "NoEnd" then some X3 else if c = "InvalidPlaces" then some X4 else none, fun x => ([("is_whole", f1), ("is_within", f2), ("is_note", f3), ("are_notes", f4), ("common", f5), ("fraction", f6), ("faces_of", f7), ("far_behind", f8), ("far_nexts", f9), ("greatest_in", f10), ("far_size", f11), ("near_behind", f12), ("near_size", f13), ("near_nexts", f14), ("ways_from", f15), ("has_end", f16), ("is_die", f17), ("_law_taken", f24), ("_law_notes", f25), ("_law_faces", f26), ("_law_most", f27), ("_law_least", f28), ("_law_next", f29), ("_law_spots", f30), ("_law_ends", f31), ("_law_drawn", f32), ("_law_with", f33), ("_law_made", f34), ("_law_refused", f35), ("_law_odd_notes", f36)] : List (Str × Addr)).lookup x⟩
  have hinj : ∀ f g a, N.fn f = some a → N.fn g = some a → f = g := by
    have key : ∀ f a, N.fn f = some a → ∃ qual st fd, Fun K f qual st a fd := by
      intro f a hfa
      have hm := PySem.mem_of_lookup (show ([("is_whole", f1), ("is_within", f2), ("is_note", f3), ("are_notes", f4), ("common", f5), ("fraction", f6), ("faces_of", f7), ("far_behind", f8), ("far_nexts", f9), ("greatest_in", f10), ("far_size", f11), ("near_behind", f12), ("near_size", f13), ("near_nexts", f14), ("ways_from", f15), ("has_end", f16), ("is_die", f17), ("_law_taken", f24), ("_law_notes", f25), ("_law_faces", f26), ("_law_most", f27), ("_law_least", f28), ("_law_next", f29), ("_law_spots", f30), ("_law_ends", f31), ("_law_drawn", f32), ("_law_with", f33), ("_law_made", f34), ("_law_refused", f35), ("_law_odd_notes", f36)] : List (Str × Addr)).lookup f = some a from hfa)
      simp only [List.mem_cons, List.not_mem_nil, or_false, Prod.mk.injEq] at hm
      rcases hm with ⟨rfl, rfl⟩ | ⟨rfl, rfl⟩ | ⟨rfl, rfl⟩ | ⟨rfl, rfl⟩ | ⟨rfl, rfl⟩ | ⟨rfl, rfl⟩ | ⟨rfl, rfl⟩ | ⟨rfl, rfl⟩ | ⟨rfl, rfl⟩ | ⟨rfl, rfl⟩ | ⟨rfl, rfl⟩ | ⟨rfl, rfl⟩ | ⟨rfl, rfl⟩ | ⟨rfl, rfl⟩ | ⟨rfl, rfl⟩ | ⟨rfl, rfl⟩ | ⟨rfl, rfl⟩ | ⟨rfl, rfl⟩ | ⟨rfl, rfl⟩ | ⟨rfl, rfl⟩ | ⟨rfl, rfl⟩ | ⟨rfl, rfl⟩ | ⟨rfl, rfl⟩ | ⟨rfl, rfl⟩ | ⟨rfl, rfl⟩ | ⟨rfl, rfl⟩ | ⟨rfl, rfl⟩ | ⟨rfl, rfl⟩ | ⟨rfl, rfl⟩ | ⟨rfl, rfl⟩
      · exact ⟨_, _, _, F1⟩
      · exact ⟨_, _, _, F2⟩
      · exact ⟨_, _, _, F3⟩
      · exact ⟨_, _, _, F4⟩
      · exact ⟨_, _, _, F5⟩
      · exact ⟨_, _, _, F6⟩
      · exact ⟨_, _, _, F7⟩
      · exact ⟨_, _, _, F8⟩
      · exact ⟨_, _, _, F9⟩
      · exact ⟨_, _, _, F10⟩
      · exact ⟨_, _, _, F11⟩
      · exact ⟨_, _, _, F12⟩
      · exact ⟨_, _, _, F13⟩
      · exact ⟨_, _, _, F14⟩
      · exact ⟨_, _, _, F15⟩
      · exact ⟨_, _, _, F16⟩
      · exact ⟨_, _, _, F17⟩
      · exact ⟨_, _, _, F24⟩
      · exact ⟨_, _, _, F25⟩
      · exact ⟨_, _, _, F26⟩
      · exact ⟨_, _, _, F27⟩
      · exact ⟨_, _, _, F28⟩
      · exact ⟨_, _, _, F29⟩
      · exact ⟨_, _, _, F30⟩
      · exact ⟨_, _, _, F31⟩
      · exact ⟨_, _, _, F32⟩
      · exact ⟨_, _, _, F33⟩
      · exact ⟨_, _, _, F34⟩
      · exact ⟨_, _, _, F35⟩
      · exact ⟨_, _, _, F36⟩
    intro f g a h1 h2
    obtain ⟨q1, s1, d1, x1⟩ := key f a h1
    obtain ⟨q2, s2, d2, x2⟩ := key g a h2
    obtain ⟨_, _, _, _, _, _, _, _, _, r1, y1, _⟩ := x1.ex
    obtain ⟨_, _, _, _, _, _, _, _, _, r2, y2, _⟩ := x2.ex
    rw [y1] at y2
    subst r1
    subst r2
    injection y2 with y2
    injection y2 with _ _ y3 _
    injection y3 with y4
    exact congrArg FuncData.name y4
  refine ⟨N, PySem.W.fnOf "law" "law" (defArgs s_law) (defBody s_law) (defScope s_law) .none kV37 dc37 pm37 an37 cd37 ct37, fun s v => .of_eq rfl, fun base hKb hNb => ?_⟩
  have T0 : Tab P w K mg base 1 N c0 := by
    refine ⟨(fun _ _ z => nomatch z), hinj, ?_, ?_, ?_, ?_, (fun _ _ _ z => nomatch z), (fun _ _ _ z => nomatch z), (fun _ _ z => nomatch z), (fun _ _ z => nomatch z), ?_, ?_, ?_, ?_⟩
    · intro x d hx
      simp only [c0] at hx
      split at hx
      · rename_i e
        subst e
        cases hx
        exact ⟨.int 6, _, PySem.W.mg_of X G G0, ⟨_, rfl⟩, .int _⟩
      split at hx
      · rename_i e
        subst e
        cases hx
        exact ⟨.int 99, _, PySem.W.mg_of X G G1, ⟨_, rfl⟩, .int _⟩
      split at hx
      · rename_i e
        subst e
        cases hx
        exact ⟨.int 6, _, PySem.W.mg_of X G G2, ⟨_, rfl⟩, .int _⟩
      split at hx
      · rename_i e
        subst e
        cases hx
        exact ⟨.int 3, _, PySem.W.mg_of X G G3, ⟨_, rfl⟩, .int _⟩
      split at hx
      · rename_i e
        subst e
        cases hx
        exact ⟨.ref g4_a, _, PySem.W.mg_of X G G4, rfl, .ctp (xs := [V.str "bounce", V.str "done", V.str "stay"]) (.inr ⟨_, _, _, GL4, rfl, rfl, (by show 3 ≤ sizeLine; decide), (.cons ⟨_, rfl⟩ (.cons ⟨_, rfl⟩ (.cons ⟨_, rfl⟩ .nil)))⟩) (.cons (.str _) (.cons (.str _) (.cons (.str _) .nil)))⟩
      split at hx
      · rename_i e
        subst e
        cases hx
        exact ⟨.str "go", _, PySem.W.mg_of X G G5, ⟨_, rfl⟩, .str _⟩
      split at hx
      · rename_i e
        subst e
        cases hx
        exact ⟨.str "wait", _, PySem.W.mg_of X G G6, ⟨_, rfl⟩, .str _⟩
      cases hx
    · intro x hx
      simp only [bltNames, List.mem_cons, List.not_mem_nil, or_false] at hx
      rcases hx with rfl | rfl | rfl | rfl | rfl | rfl | rfl | rfl | rfl | rfl | rfl | rfl | rfl | rfl | rfl | rfl | rfl
      · exact PySem.W.mg_none_of X G b0
      · exact PySem.W.mg_none_of X G b1
      · exact PySem.W.mg_none_of X G b2
      · exact PySem.W.mg_none_of X G b3
      · exact PySem.W.mg_none_of X G b4
      · exact PySem.W.mg_none_of X G b5
      · exact PySem.W.mg_none_of X G b6
      · exact PySem.W.mg_none_of X G b7
      · exact PySem.W.mg_none_of X G b8
      · exact PySem.W.mg_none_of X G b9
      · exact PySem.W.mg_none_of X G b10
      · exact PySem.W.mg_none_of X G b11
      · exact PySem.W.mg_none_of X G b12
      · exact PySem.W.mg_none_of X G b13
      · exact PySem.W.mg_none_of X G b14
      · exact PySem.W.mg_none_of X G b15
      · exact PySem.W.mg_none_of X G b16
    · intro c C hC hf
      by_cases e : c = "Race"
      · subst e
        have hC : C1 = C := Option.some.inj hC
        subst hC
        exact ⟨pgC1, hdC1, poC1, saC1⟩
      · exact absurd hf (by simp [c0, *])
    · intro c C f l hC hl hm
      by_cases e : c = "Race"
      · subst e
        have hC : C1 = C := Option.some.inj hC
        subst hC
        have hl : (some ["shares", "word", "starts", "tails", "chances", "goes", "pauses"] : Option (List Str)) = some l := hl
        cases hl
        simp only [List.mem_cons, List.not_mem_nil, or_false] at hm
        rcases hm with rfl | rfl | rfl | rfl | rfl | rfl | rfl
        · exact naC1_0
        · exact naC1_1
        · exact naC1_2
        · exact naC1_3
        · exact naC1_4
        · exact naC1_5
        · exact naC1_6
      · exact absurd hl (by simp [c0, *])
    · intro c C hC hf
      by_cases e : c = "Race"
      · subst e
        have hC : C1 = C := Option.some.inj hC
        subst hC
        refine ⟨PySem.W.mg_of X G mCC1, kit_self, ?_, clC1, gs, ts, moC1⟩
        intro t ht
        simp only [tyNames, List.mem_cons, List.not_mem_nil, or_false] at ht
        rcases ht with rfl | rfl | rfl | rfl | rfl | rfl | rfl
        · exact kit_own isC1 tyC1 ktC1_0
        · exact kit_own isC1 tyC1 ktC1_1
        · exact kit_own isC1 tyC1 ktC1_2
        · exact kit_own isC1 tyC1 ktC1_3
        · exact kit_own isC1 tyC1 ktC1_4
        · exact kit_own isC1 tyC1 ktC1_5
        · exact kit_own isC1 tyC1 ktC1_6
      · exact absurd hf (by simp [c0, *])
    · intro c fl hx
      have hx : (if c = "InvalidDie" then some ([] : List Str) else if c = "InvalidRule" then some ([] : List Str) else if c = "NoEnd" then some ([] : List Str) else if c = "InvalidPlaces" then some (["kind"] : List Str) else none) = some fl := hx
      split at hx
      · rename_i e
        subst e
        cases hx
        have FX := fun_mk (st := s_InvalidDie_init) lX1 cX1 kfX1
        have BX := FX.binds (ps := ["self"]) fun _ _ _ _ _ _ us hl => match us, hl with | [_], _ => rfl
        exact ⟨⟨X1, iX1, _, rfl, ⟨PySem.W.mg_of X G mX1, ⟨⟨nmX1, qX1, NX1, bsX1, _, snX1, subX1, abX1, colX1, ddX1, m0X1, m1X1, m2X1, m3X1, m5X1, LX1, rfl⟩, saX1, ecX1, tyX1, kcX1⟩, inX1, tfX1, (fun _ z => nomatch z)⟩, ini0 (base := base) ⟨PySem.W.mg_of X G mBB, spBB, rdBB, fcBB⟩ FX i_InvalidDie_init, BX⟩, X1, rfl, ⟨gaX1, ggX1, ecX1, hdX1⟩⟩
      split at hx
      · rename_i e
        subst e
        cases hx
        have FX := fun_mk (st := s_InvalidRule_init) lX2 cX2 kfX2
        have BX := FX.binds (ps := ["self"]) fun _ _ _ _ _ _ us hl => match us, hl with | [_], _ => rfl
        exact ⟨⟨X2, iX2, _, rfl, ⟨PySem.W.mg_of X G mX2, ⟨⟨nmX2, qX2, NX2, bsX2, _, snX2, subX2, abX2, colX2, ddX2, m0X2, m1X2, m2X2, m3X2, m5X2, LX2, rfl⟩, saX2, ecX2, tyX2, kcX2⟩, inX2, tfX2, (fun _ z => nomatch z)⟩, ini0 (base := base) ⟨PySem.W.mg_of X G mBB, spBB, rdBB, fcBB⟩ FX i_InvalidRule_init, BX⟩, X2, rfl, ⟨gaX2, ggX2, ecX2, hdX2⟩⟩
      split at hx
      · rename_i e
        subst e
        cases hx
        have FX := fun_mk (st := s_NoEnd_init) lX3 cX3 kfX3
        have BX := FX.binds (ps := ["self"]) fun _ _ _ _ _ _ us hl => match us, hl with | [_], _ => rfl
        exact ⟨⟨X3, iX3, _, rfl, ⟨PySem.W.mg_of X G mX3, ⟨⟨nmX3, qX3, NX3, bsX3, _, snX3, subX3, abX3, colX3, ddX3, m0X3, m1X3, m2X3, m3X3, m5X3, LX3, rfl⟩, saX3, ecX3, tyX3, kcX3⟩, inX3, tfX3, (fun _ z => nomatch z)⟩, ini0 (base := base) ⟨PySem.W.mg_of X G mBB, spBB, rdBB, fcBB⟩ FX i_NoEnd_init, BX⟩, X3, rfl, ⟨gaX3, ggX3, ecX3, hdX3⟩⟩
      split at hx
      · rename_i e
        subst e
        cases hx
        have FX := fun_mk (st := s_InvalidPlaces_init) lX4 cX4 kfX4
        have BX := FX.binds (ps := ["self", "kind"]) fun _ _ _ _ _ _ us hl => match us, hl with | [_, _], _ => rfl
        exact ⟨⟨X4, iX4, _, rfl, ⟨PySem.W.mg_of X G mX4, ⟨⟨nmX4, qX4, NX4, bsX4, _, snX4, subX4, abX4, colX4, ddX4, m0X4, m1X4, m2X4, m3X4, m5X4, LX4, rfl⟩, saX4, ecX4, tyX4, kcX4⟩, inX4, tfX4, (by
          intro y hy
          simp only [List.mem_cons, List.not_mem_nil, or_false] at hy
          rcases hy with rfl
          · exact nbX4_0)⟩, ini1 (base := base) ⟨PySem.W.mg_of X G mBB, spBB, rdBB, fcBB⟩ FX i_InvalidPlaces_init, BX⟩, X4, rfl, ⟨gaX4, ggX4, ecX4, hdX4⟩⟩
      cases hx
    · intro c hx
      have hx := of_decide_eq_true (show decide _ = true from hx)
      simp only [List.mem_cons, List.not_mem_nil, or_false] at hx
      rcases hx with rfl | rfl | rfl | rfl
      · exact ⟨X1, PySem.W.mg_of X G mX1⟩
      · exact ⟨X2, PySem.W.mg_of X G mX2⟩
      · exact ⟨X4, PySem.W.mg_of X G mX4⟩
      · exact ⟨X3, PySem.W.mg_of X G mX3⟩
    · intro c h b hx
      have hx := exT_mem hx
      simp only [exT, List.mem_cons, List.not_mem_nil, or_false, Prod.mk.injEq] at hx
      rcases hx with ⟨rfl, rfl, rfl⟩ | ⟨rfl, rfl, rfl⟩ | ⟨rfl, rfl, rfl⟩ | ⟨rfl, rfl, rfl⟩ | ⟨rfl, rfl, rfl⟩ | ⟨rfl, rfl, rfl⟩ | ⟨rfl, rfl, rfl⟩ | ⟨rfl, rfl, rfl⟩ | ⟨rfl, rfl, rfl⟩ | ⟨rfl, rfl, rfl⟩ | ⟨rfl, rfl, rfl⟩ | ⟨rfl, rfl, rfl⟩ | ⟨rfl, rfl, rfl⟩ | ⟨rfl, rfl, rfl⟩ | ⟨rfl, rfl, rfl⟩ | ⟨rfl, rfl, rfl⟩
      · exact ⟨X1, X1, rfl, PySem.W.mg_of X G mX1, exm_of ecX1 icX1 tyX1 sbX1_X1⟩
      · exact ⟨X1, X2, rfl, PySem.W.mg_of X G mX2, exm_of ecX2 icX2 tyX2 sbX1_X2⟩
      · exact ⟨X1, X4, rfl, PySem.W.mg_of X G mX4, exm_of ecX4 icX4 tyX4 sbX1_X4⟩
      · exact ⟨X1, X3, rfl, PySem.W.mg_of X G mX3, exm_of ecX3 icX3 tyX3 sbX1_X3⟩
      · exact ⟨X2, X1, rfl, PySem.W.mg_of X G mX1, exm_of ecX1 icX1 tyX1 sbX2_X1⟩
      · exact ⟨X2, X2, rfl, PySem.W.mg_of X G mX2, exm_of ecX2 icX2 tyX2 sbX2_X2⟩
      · exact ⟨X2, X4, rfl, PySem.W.mg_of X G mX4, exm_of ecX4 icX4 tyX4 sbX2_X4⟩
      · exact ⟨X2, X3, rfl, PySem.W.mg_of X G mX3, exm_of ecX3 icX3 tyX3 sbX2_X3⟩
      · exact ⟨X3, X1, rfl, PySem.W.mg_of X G mX1, exm_of ecX1 icX1 tyX1 sbX3_X1⟩
      · exact ⟨X3, X2, rfl, PySem.W.mg_of X G mX2, exm_of ecX2 icX2 tyX2 sbX3_X2⟩
      · exact ⟨X3, X4, rfl, PySem.W.mg_of X G mX4, exm_of ecX4 icX4 tyX4 sbX3_X4⟩
      · exact ⟨X3, X3, rfl, PySem.W.mg_of X G mX3, exm_of ecX3 icX3 tyX3 sbX3_X3⟩
      · exact ⟨X4, X1, rfl, PySem.W.mg_of X G mX1, exm_of ecX1 icX1 tyX1 sbX4_X1⟩
      · exact ⟨X4, X2, rfl, PySem.W.mg_of X G mX2, exm_of ecX2 icX2 tyX2 sbX4_X2⟩
      · exact ⟨X4, X4, rfl, PySem.W.mg_of X G mX4, exm_of ecX4 icX4 tyX4 sbX4_X4⟩
      · exact ⟨X4, X3, rfl, PySem.W.mg_of X G mX3, exm_of ecX3 icX3 tyX3 sbX4_X3⟩
  have hat : ∀ e ∈ ents, EntAt K mg N c0 e := by
    intro e he
    simp only [ents, List.mem_cons, List.not_mem_nil, or_false] at he
    rcases he with rfl | rfl | rfl | rfl | rfl | rfl | rfl | rfl | rfl | rfl | rfl | rfl | rfl | rfl | rfl | rfl | rfl | rfl | rfl | rfl | rfl | rfl | rfl | rfl | rfl | rfl | rfl | rfl | rfl | rfl | rfl | rfl | rfl | rfl | rfl | rfl
    · exact ⟨⟨_, _, F1, B1, ⟨PySem.W.mg_of X G a1, rfl⟩⟩⟩
    · exact ⟨⟨_, _, F2, B2, ⟨PySem.W.mg_of X G a2, rfl⟩⟩⟩
    · exact ⟨⟨_, _, F3, B3, ⟨PySem.W.mg_of X G a3, rfl⟩⟩⟩
    · exact ⟨⟨_, _, F4, B4, ⟨PySem.W.mg_of X G a4, rfl⟩⟩⟩
    · exact ⟨⟨_, _, F5, B5, ⟨PySem.W.mg_of X G a5, rfl⟩⟩⟩
    · exact ⟨⟨_, _, F6, B6, ⟨PySem.W.mg_of X G a6, rfl⟩⟩⟩
    · exact ⟨⟨_, _, F7, B7, ⟨PySem.W.mg_of X G a7, rfl⟩⟩⟩
    · exact ⟨⟨_, _, F8, B8, ⟨PySem.W.mg_of X G a8, rfl⟩⟩⟩
    · exact ⟨⟨_, _, F9, B9, ⟨PySem.W.mg_of X G a9, rfl⟩⟩⟩
    · exact ⟨⟨_, _, F10, B10, ⟨PySem.W.mg_of X G a10, rfl⟩⟩⟩
    · exact ⟨⟨_, _, F11, B11, ⟨PySem.W.mg_of X G a11, rfl⟩⟩⟩
    · exact ⟨⟨_, _, F12, B12, ⟨PySem.W.mg_of X G a12, rfl⟩⟩⟩
    · exact ⟨⟨_, _, F13, B13, ⟨PySem.W.mg_of X G a13, rfl⟩⟩⟩
    · exact ⟨⟨_, _, F14, B14, ⟨PySem.W.mg_of X G a14, rfl⟩⟩⟩
    · exact ⟨⟨_, _, F15, B15, ⟨PySem.W.mg_of X G a15, rfl⟩⟩⟩
    · exact ⟨⟨_, _, F16, B16, ⟨PySem.W.mg_of X G a16, rfl⟩⟩⟩
    · exact ⟨⟨_, _, F17, B17, ⟨PySem.W.mg_of X G a17, rfl⟩⟩⟩
    · exact ⟨⟨_, _, F18, B18, ⟨C1, rfl, PySem.W.mg_of X G mCC1, ⟨mkC1, a18, i18, kcC1⟩⟩⟩⟩
    · exact ⟨⟨_, _, F19, B19, ⟨C1, p19, rfl, rfl, ⟨a19, g19, t19, ⟨_, r19⟩⟩, rfl⟩⟩⟩
    · exact ⟨⟨_, _, F20, B20, ⟨C1, p20, rfl, rfl, ⟨a20, g20, t20, ⟨_, r20⟩⟩, rfl⟩⟩⟩
    · exact ⟨⟨_, _, F21, B21, ⟨C1, p21, rfl, rfl, ⟨a21, g21, t21, ⟨_, r21⟩⟩, rfl⟩⟩⟩
    · exact ⟨⟨_, _, F22, B22, ⟨C1, p22, rfl, rfl, ⟨a22, g22, t22, ⟨_, r22⟩⟩, rfl⟩⟩⟩
    · exact ⟨⟨_, _, F23, B23, ⟨C1, rfl, rfl, ⟨a23, i23, k23⟩, fun _ => ⟨neC1, moC1, suC1⟩⟩⟩⟩
    · exact ⟨⟨_, _, F24, B24, ⟨PySem.W.mg_of X G a24, rfl⟩⟩⟩
    · exact ⟨⟨_, _, F25, B25, ⟨PySem.W.mg_of X G a25, rfl⟩⟩⟩
    · exact ⟨⟨_, _, F26, B26, ⟨PySem.W.mg_of X G a26, rfl⟩⟩⟩
    · exact ⟨⟨_, _, F27, B27, ⟨PySem.W.mg_of X G a27, rfl⟩⟩⟩
    · exact ⟨⟨_, _, F28, B28, ⟨PySem.W.mg_of X G a28, rfl⟩⟩⟩
    · exact ⟨⟨_, _, F29, B29, ⟨PySem.W.mg_of X G a29, rfl⟩⟩⟩
    · exact ⟨⟨_, _, F30, B30, ⟨PySem.W.mg_of X G a30, rfl⟩⟩⟩
    · exact ⟨⟨_, _, F31, B31, ⟨PySem.W.mg_of X G a31, rfl⟩⟩⟩
    · exact ⟨⟨_, _, F32, B32, ⟨PySem.W.mg_of X G a32, rfl⟩⟩⟩
    · exact ⟨⟨_, _, F33, B33, ⟨PySem.W.mg_of X G a33, rfl⟩⟩⟩
    · exact ⟨⟨_, _, F34, B34, ⟨PySem.W.mg_of X G a34, rfl⟩⟩⟩
    · exact ⟨⟨_, _, F35, B35, ⟨PySem.W.mg_of X G a35, rfl⟩⟩⟩
    · exact ⟨⟨_, _, F36, B36, ⟨PySem.W.mg_of X G a36, rfl⟩⟩⟩
  have hcs : ∀ c ∈ ownC, ∃ C, N.cls c = some C ∧ (c0.flds c).isSome = true := by
    intro c hc
    simp only [ownC, List.mem_cons, List.not_mem_nil, or_false] at hc
    rcases hc with rfl
    · exact ⟨C1, rfl, rfl⟩
  have TA := tab_all (F := 100000) hcs T0 ents_ok hat
  have hc2 : ∀ c ∈ ownC, ∃ C, N.cls c = some C ∧ (cfA.flds c).isSome = true := by
    intro c hc
    obtain ⟨C, h1, h2⟩ := hcs c hc
    refine ⟨C, h1, ?_⟩
    show ((cfgOf c0 100000 ents).flds c).isSome = true
    rw [cfgOf_flds]
    exact h2
  exact fn_run (F := 100000) hc2 TA F37 o_law.sc rfl (by decide) k_law
end Rl
namespace Rl
theorem c0_C : CfC c0 := by constructor <;> simp [c0]
theorem c0_X : CfX c0 := by constructor <;> decide +kernel
theorem c0_H : CfH c0 := { toCfX := c0_X, hc := by decide +kernel, ex := by decide +kernel }
theorem c0_R : CfR c0 := by constructor <;> first | rfl | simp [c0]
theorem q_is_whole : S_is_whole (e_is_whole.fi (cfgOf c0 100000 []) 100000) := is_whole_ok
theorem q_is_within : S_is_within (e_is_within.fi (cfgOf c0 100000 [e_is_whole]) 100000) := is_within_ok (kn_of (cf := c0) (F := 100000) (s := (.fn "is_whole")) (S := S_is_whole) [] [] e_is_whole rfl q_is_whole (by decide +kernel))
theorem q_is_note : (fun fi => S_is_note fi ∧ S_is_noteO fi) (e_is_note.fi (cfgOf c0 100000 [e_is_whole, e_is_within]) 100000) := ⟨is_note_ok (cfC_of c0_C) (kn_of (cf := c0) (F := 100000) (s := (.fn "is_within")) (S := S_is_within) [e_is_whole] [] e_is_within rfl q_is_within (by decide +kernel)), is_noteO_ok (cfC_of c0_C) (kn_of (cf := c0) (F := 100000) (s := (.fn "is_within")) (S := S_is_within) [e_is_whole] [] e_is_within rfl q_is_within (by decide +kernel))⟩
theorem q_are_notes : (fun fi => S_are_notes fi ∧ S_are_notesO fi) (e_are_notes.fi (cfgOf c0 100000 [e_is_whole, e_is_within, e_is_note]) 100000) := ⟨are_notes_ok (cfC_of c0_C) (kn_l (kn_of (cf := c0) (F := 100000) (s := (.fn "is_note")) (S := (fun fi => S_is_note fi ∧ S_is_noteO fi)) [e_is_whole, e_is_within] [] e_is_note rfl q_is_note (by decide +kernel))), are_notesO_ok (cfC_of c0_C) (kn_of (cf := c0) (F := 100000) (s := (.fn "is_note")) (S := (fun fi => S_is_note fi ∧ S_is_noteO fi)) [e_is_whole, e_is_within] [] e_is_note rfl q_is_note (by decide +kernel))⟩
theorem q_common : S_common (e_common.fi (cfgOf c0 100000 [e_is_whole, e_is_within, e_is_note, e_are_notes]) 100000) := common_ok (by decide)
theorem q_fraction : S_fraction (e_fraction.fi (cfgOf c0 100000 [e_is_whole, e_is_within, e_is_note, e_are_notes, e_common]) 100000) := fraction_ok (kn_of (cf := c0) (F := 100000) (s := (.fn "common")) (S := S_common) [e_is_whole, e_is_within, e_is_note, e_are_notes] [] e_common rfl q_common (by decide +kernel))
theorem q_faces_of : S_faces_of (e_faces_of.fi (cfgOf c0 100000 [e_is_whole, e_is_within, e_is_note, e_are_notes, e_common, e_fraction]) 100000) := faces_of_ok (cfR_of c0_R (by decide +kernel))
theorem q_far_behind : S_far_behind (e_far_behind.fi (cfgOf c0 100000 [e_is_whole, e_is_within, e_is_note, e_are_notes, e_common, e_fraction, e_faces_of]) 100000) := far_behind_ok (cfR_of c0_R (by decide +kernel))
theorem q_far_nexts : S_far_nexts (e_far_nexts.fi (cfgOf c0 100000 [e_is_whole, e_is_within, e_is_note, e_are_notes, e_common, e_fraction, e_faces_of, e_far_behind]) 100000) := far_nexts_ok (kn_of (cf := c0) (F := 100000) (s := (.fn "faces_of")) (S := S_faces_of) [e_is_whole, e_is_within, e_is_note, e_are_notes, e_common, e_fraction] [e_far_behind] e_faces_of rfl q_faces_of (by decide +kernel)) (kn_of (cf := c0) (F := 100000) (s := (.fn "far_behind")) (S := S_far_behind) [e_is_whole, e_is_within, e_is_note, e_are_notes, e_common, e_fraction, e_faces_of] [] e_far_behind rfl q_far_behind (by decide +kernel))
theorem q_greatest_in : S_most (e_greatest_in.fi (cfgOf c0 100000 [e_is_whole, e_is_within, e_is_note, e_are_notes, e_common, e_fraction, e_faces_of, e_far_behind, e_far_nexts]) 100000) := greatest_in_ok (cfC_of c0_C)
theorem q_far_size : S_far_size (e_far_size.fi (cfgOf c0 100000 [e_is_whole, e_is_within, e_is_note, e_are_notes, e_common, e_fraction, e_faces_of, e_far_behind, e_far_nexts, e_greatest_in]) 100000) := far_size_ok (cfR_of c0_R (by decide +kernel)) (kn_of (cf := c0) (F := 100000) (s := (.fn "greatest_in")) (S := S_most) [e_is_whole, e_is_within, e_is_note, e_are_notes, e_common, e_fraction, e_faces_of, e_far_behind, e_far_nexts] [] e_greatest_in rfl q_greatest_in (by decide +kernel))
theorem q_near_behind : S_near_behind (e_near_behind.fi (cfgOf c0 100000 [e_is_whole, e_is_within, e_is_note, e_are_notes, e_common, e_fraction, e_faces_of, e_far_behind, e_far_nexts, e_greatest_in, e_far_size]) 100000) := near_behind_ok (cfR_of c0_R (by decide +kernel))
theorem q_near_size : S_near_size (e_near_size.fi (cfgOf c0 100000 [e_is_whole, e_is_within, e_is_note, e_are_notes, e_common, e_fraction, e_faces_of, e_far_behind, e_far_nexts, e_greatest_in, e_far_size, e_near_behind]) 100000) := near_size_ok (cfR_of c0_R (by decide +kernel)) (kn_of (cf := c0) (F := 100000) (s := (.fn "greatest_in")) (S := S_most) [e_is_whole, e_is_within, e_is_note, e_are_notes, e_common, e_fraction, e_faces_of, e_far_behind, e_far_nexts] [e_far_size, e_near_behind] e_greatest_in rfl q_greatest_in (by decide +kernel))
theorem q_near_nexts : S_near_nexts (e_near_nexts.fi (cfgOf c0 100000 [e_is_whole, e_is_within, e_is_note, e_are_notes, e_common, e_fraction, e_faces_of, e_far_behind, e_far_nexts, e_greatest_in, e_far_size, e_near_behind, e_near_size]) 100000) := near_nexts_ok (kn_of (cf := c0) (F := 100000) (s := (.fn "near_size")) (S := S_near_size) [e_is_whole, e_is_within, e_is_note, e_are_notes, e_common, e_fraction, e_faces_of, e_far_behind, e_far_nexts, e_greatest_in, e_far_size, e_near_behind] [] e_near_size rfl q_near_size (by decide +kernel)) (kn_of (cf := c0) (F := 100000) (s := (.fn "faces_of")) (S := S_faces_of) [e_is_whole, e_is_within, e_is_note, e_are_notes, e_common, e_fraction] [e_far_behind, e_far_nexts, e_greatest_in, e_far_size, e_near_behind, e_near_size] e_faces_of rfl q_faces_of (by decide +kernel)) (kn_of (cf := c0) (F := 100000) (s := (.fn "near_behind")) (S := S_near_behind) [e_is_whole, e_is_within, e_is_note, e_are_notes, e_common, e_fraction, e_faces_of, e_far_behind, e_far_nexts, e_greatest_in, e_far_size] [e_near_size] e_near_behind rfl q_near_behind (by decide +kernel))
theorem q_ways_from : S_ways (e_ways_from.fi (cfgOf c0 100000 [e_is_whole, e_is_within, e_is_note, e_are_notes, e_common, e_fraction, e_faces_of, e_far_behind, e_far_nexts, e_greatest_in, e_far_size, e_near_behind, e_near_size, e_near_nexts]) 100000) := ways_from_ok (by decide) (kn_of (cf := c0) (F := 100000) (s := (.fn "near_nexts")) (S := S_near_nexts) [e_is_whole, e_is_within, e_is_note, e_are_notes, e_common, e_fraction, e_faces_of, e_far_behind, e_far_nexts, e_greatest_in, e_far_size, e_near_behind, e_near_size] [] e_near_nexts rfl q_near_nexts (by decide +kernel)) (kn_of (cf := c0) (F := 100000) (s := (.fn "far_nexts")) (S := S_far_nexts) [e_is_whole, e_is_within, e_is_note, e_are_notes, e_common, e_fraction, e_faces_of, e_far_behind] [e_greatest_in, e_far_size, e_near_behind, e_near_size, e_near_nexts] e_far_nexts rfl q_far_nexts (by decide +kernel))
theorem q_has_end : S_has_end (e_has_end.fi (cfgOf c0 100000 [e_is_whole, e_is_within, e_is_note, e_are_notes, e_common, e_fraction, e_faces_of, e_far_behind, e_far_nexts, e_greatest_in, e_far_size, e_near_behind, e_near_size, e_near_nexts, e_ways_from]) 100000) := has_end_ok (cfR_of c0_R (by decide +kernel)) (kn_of (cf := c0) (F := 100000) (s := (.fn "near_size")) (S := S_near_size) [e_is_whole, e_is_within, e_is_note, e_are_notes, e_common, e_fraction, e_faces_of, e_far_behind, e_far_nexts, e_greatest_in, e_far_size, e_near_behind] [e_near_nexts, e_ways_from] e_near_size rfl q_near_size (by decide +kernel)) (kn_of (cf := c0) (F := 100000) (s := (.fn "far_size")) (S := S_far_size) [e_is_whole, e_is_within, e_is_note, e_are_notes, e_common, e_fraction, e_faces_of, e_far_behind, e_far_nexts, e_greatest_in] [e_near_behind, e_near_size, e_near_nexts, e_ways_from] e_far_size rfl q_far_size (by decide +kernel)) (kn_of (cf := c0) (F := 100000) (s := (.fn "ways_from")) (S := S_ways) [e_is_whole, e_is_within, e_is_note, e_are_notes, e_common, e_fraction, e_faces_of, e_far_behind, e_far_nexts, e_greatest_in, e_far_size, e_near_behind, e_near_size, e_near_nexts] [] e_ways_from rfl q_ways_from (by decide +kernel)) (isSome_kn (kn_of (cf := c0) (F := 100000) (s := (.fn "near_nexts")) (S := S_near_nexts) [e_is_whole, e_is_within, e_is_note, e_are_notes, e_common, e_fraction, e_faces_of, e_far_behind, e_far_nexts, e_greatest_in, e_far_size, e_near_behind, e_near_size] [e_ways_from] e_near_nexts rfl q_near_nexts (by decide +kernel))) (isSome_kn (kn_of (cf := c0) (F := 100000) (s := (.fn "far_nexts")) (S := S_far_nexts) [e_is_whole, e_is_within, e_is_note, e_are_notes, e_common, e_fraction, e_faces_of, e_far_behind] [e_greatest_in, e_far_size, e_near_behind, e_near_size, e_near_nexts, e_ways_from] e_far_nexts rfl q_far_nexts (by decide +kernel)))
theorem q_is_die : (fun fi => S_is_die fi ∧ S_is_dieO fi) (e_is_die.fi (cfgOf c0 100000 [e_is_whole, e_is_within, e_is_note, e_are_notes, e_common, e_fraction, e_faces_of, e_far_behind, e_far_nexts, e_greatest_in, e_far_size, e_near_behind, e_near_size, e_near_nexts, e_ways_from, e_has_end]) 100000) := ⟨is_die_ok (cfC_of c0_C) (kn_of (cf := c0) (F := 100000) (s := (.fn "is_within")) (S := S_is_within) [e_is_whole] [e_is_note, e_are_notes, e_common, e_fraction, e_faces_of, e_far_behind, e_far_nexts, e_greatest_in, e_far_size, e_near_behind, e_near_size, e_near_nexts, e_ways_from, e_has_end] e_is_within rfl q_is_within (by decide +kernel)) (kn_of (cf := c0) (F := 100000) (s := (.fn "common")) (S := S_common) [e_is_whole, e_is_within, e_is_note, e_are_notes] [e_fraction, e_faces_of, e_far_behind, e_far_nexts, e_greatest_in, e_far_size, e_near_behind, e_near_size, e_near_nexts, e_ways_from, e_has_end] e_common rfl q_common (by decide +kernel)), is_dieO_ok (cfC_of c0_C) (kn_of (cf := c0) (F := 100000) (s := (.fn "is_within")) (S := S_is_within) [e_is_whole] [e_is_note, e_are_notes, e_common, e_fraction, e_faces_of, e_far_behind, e_far_nexts, e_greatest_in, e_far_size, e_near_behind, e_near_size, e_near_nexts, e_ways_from, e_has_end] e_is_within rfl q_is_within (by decide +kernel)) (kn_of (cf := c0) (F := 100000) (s := (.fn "common")) (S := S_common) [e_is_whole, e_is_within, e_is_note, e_are_notes] [e_fraction, e_faces_of, e_far_behind, e_far_nexts, e_greatest_in, e_far_size, e_near_behind, e_near_size, e_near_nexts, e_ways_from, e_has_end] e_common rfl q_common (by decide +kernel))⟩
theorem q_Race_init : (fun fi => S_race_init fi ∧ S_race_initX fi ∧ S_race_initE fi) (e_Race_init.fi (cfgOf c0 100000 [e_is_whole, e_is_within, e_is_note, e_are_notes, e_common, e_fraction, e_faces_of, e_far_behind, e_far_nexts, e_greatest_in, e_far_size, e_near_behind, e_near_size, e_near_nexts, e_ways_from, e_has_end, e_is_die]) 100000) := ⟨race_init_ok (cfC_of c0_C) (cfR_of c0_R (by decide +kernel)) (kn_l (kn_of (cf := c0) (F := 100000) (s := (.fn "is_die")) (S := (fun fi => S_is_die fi ∧ S_is_dieO fi)) [e_is_whole, e_is_within, e_is_note, e_are_notes, e_common, e_fraction, e_faces_of, e_far_behind, e_far_nexts, e_greatest_in, e_far_size, e_near_behind, e_near_size, e_near_nexts, e_ways_from, e_has_end] [] e_is_die rfl q_is_die (by decide +kernel))) (kn_l (kn_of (cf := c0) (F := 100000) (s := (.fn "are_notes")) (S := (fun fi => S_are_notes fi ∧ S_are_notesO fi)) [e_is_whole, e_is_within, e_is_note] [e_common, e_fraction, e_faces_of, e_far_behind, e_far_nexts, e_greatest_in, e_far_size, e_near_behind, e_near_size, e_near_nexts, e_ways_from, e_has_end, e_is_die] e_are_notes rfl q_are_notes (by decide +kernel))) (kn_of (cf := c0) (F := 100000) (s := (.fn "fraction")) (S := S_fraction) [e_is_whole, e_is_within, e_is_note, e_are_notes, e_common] [e_faces_of, e_far_behind, e_far_nexts, e_greatest_in, e_far_size, e_near_behind, e_near_size, e_near_nexts, e_ways_from, e_has_end, e_is_die] e_fraction rfl q_fraction (by decide +kernel)) (kn_of (cf := c0) (F := 100000) (s := (.fn "has_end")) (S := S_has_end) [e_is_whole, e_is_within, e_is_note, e_are_notes, e_common, e_fraction, e_faces_of, e_far_behind, e_far_nexts, e_greatest_in, e_far_size, e_near_behind, e_near_size, e_near_nexts, e_ways_from] [e_is_die] e_has_end rfl q_has_end (by decide +kernel)), race_initX_ok (cfC_of c0_C) (cfR_of c0_R (by decide +kernel)) (cfX_of c0_X) (kn_of (cf := c0) (F := 100000) (s := (.fn "is_die")) (S := (fun fi => S_is_die fi ∧ S_is_dieO fi)) [e_is_whole, e_is_within, e_is_note, e_are_notes, e_common, e_fraction, e_faces_of, e_far_behind, e_far_nexts, e_greatest_in, e_far_size, e_near_behind, e_near_size, e_near_nexts, e_ways_from, e_has_end] [] e_is_die rfl q_is_die (by decide +kernel)) (kn_of (cf := c0) (F := 100000) (s := (.fn "are_notes")) (S := (fun fi => S_are_notes fi ∧ S_are_notesO fi)) [e_is_whole, e_is_within, e_is_note] [e_common, e_fraction, e_faces_of, e_far_behind, e_far_nexts, e_greatest_in, e_far_size, e_near_behind, e_near_size, e_near_nexts, e_ways_from, e_has_end, e_is_die] e_are_notes rfl q_are_notes (by decide +kernel)), race_initE_ok (cfC_of c0_C) (cfR_of c0_R (by decide +kernel)) (cfX_of c0_X) (kn_l (kn_of (cf := c0) (F := 100000) (s := (.fn "is_die")) (S := (fun fi => S_is_die fi ∧ S_is_dieO fi)) [e_is_whole, e_is_within, e_is_note, e_are_notes, e_common, e_fraction, e_faces_of, e_far_behind, e_far_nexts, e_greatest_in, e_far_size, e_near_behind, e_near_size, e_near_nexts, e_ways_from, e_has_end] [] e_is_die rfl q_is_die (by decide +kernel))) (kn_l (kn_of (cf := c0) (F := 100000) (s := (.fn "are_notes")) (S := (fun fi => S_are_notes fi ∧ S_are_notesO fi)) [e_is_whole, e_is_within, e_is_note] [e_common, e_fraction, e_faces_of, e_far_behind, e_far_nexts, e_greatest_in, e_far_size, e_near_behind, e_near_size, e_near_nexts, e_ways_from, e_has_end, e_is_die] e_are_notes rfl q_are_notes (by decide +kernel))) (kn_of (cf := c0) (F := 100000) (s := (.fn "fraction")) (S := S_fraction) [e_is_whole, e_is_within, e_is_note, e_are_notes, e_common] [e_faces_of, e_far_behind, e_far_nexts, e_greatest_in, e_far_size, e_near_behind, e_near_size, e_near_nexts, e_ways_from, e_has_end, e_is_die] e_fraction rfl q_fraction (by decide +kernel)) (kn_of (cf := c0) (F := 100000) (s := (.fn "has_end")) (S := S_has_end) [e_is_whole, e_is_within, e_is_note, e_are_notes, e_common, e_fraction, e_faces_of, e_far_behind, e_far_nexts, e_greatest_in, e_far_size, e_near_behind, e_near_size, e_near_nexts, e_ways_from] [e_is_die] e_has_end rfl q_has_end (by decide +kernel))⟩
theorem q_Race_die : (fun fi => S_prop fi (fun r => dieD r.die)) (e_Race_die.fi (cfgOf c0 100000 [e_is_whole, e_is_within, e_is_note, e_are_notes, e_common, e_fraction, e_faces_of, e_far_behind, e_far_nexts, e_greatest_in, e_far_size, e_near_behind, e_near_size, e_near_nexts, e_ways_from, e_has_end, e_is_die, e_Race_init]) 100000) := race_die_ok (cfR_of c0_R (by decide +kernel))
theorem q_Race_rule : (fun fi => S_prop fi (fun r => .str r.rule.s)) (e_Race_rule.fi (cfgOf c0 100000 [e_is_whole, e_is_within, e_is_note, e_are_notes, e_common, e_fraction, e_faces_of, e_far_behind, e_far_nexts, e_greatest_in, e_far_size, e_near_behind, e_near_size, e_near_nexts, e_ways_from, e_has_end, e_is_die, e_Race_init, e_Race_die]) 100000) := race_rule_ok (cfR_of c0_R (by decide +kernel))
theorem q_Race_near : (fun fi => S_prop fi (fun r => ntsD r.near)) (e_Race_near.fi (cfgOf c0 100000 [e_is_whole, e_is_within, e_is_note, e_are_notes, e_common, e_fraction, e_faces_of, e_far_behind, e_far_nexts, e_greatest_in, e_far_size, e_near_behind, e_near_size, e_near_nexts, e_ways_from, e_has_end, e_is_die, e_Race_init, e_Race_die, e_Race_rule]) 100000) := race_near_ok (cfR_of c0_R (by decide +kernel))
theorem q_Race_far : (fun fi => S_prop fi (fun r => ntsD r.far)) (e_Race_far.fi (cfgOf c0 100000 [e_is_whole, e_is_within, e_is_note, e_are_notes, e_common, e_fraction, e_faces_of, e_far_behind, e_far_nexts, e_greatest_in, e_far_size, e_near_behind, e_near_size, e_near_nexts, e_ways_from, e_has_end, e_is_die, e_Race_init, e_Race_die, e_Race_rule, e_Race_near]) 100000) := race_far_ok (cfR_of c0_R (by decide +kernel))
theorem q_Race_eq : (fun fi => S_race_eq fi ∧ S_race_eqL fi) (e_Race_eq.fi (cfgOf c0 100000 [e_is_whole, e_is_within, e_is_note, e_are_notes, e_common, e_fraction, e_faces_of, e_far_behind, e_far_nexts, e_greatest_in, e_far_size, e_near_behind, e_near_size, e_near_nexts, e_ways_from, e_has_end, e_is_die, e_Race_init, e_Race_die, e_Race_rule, e_Race_near, e_Race_far]) 100000) := ⟨race_eq_ok (cfR_of c0_R (by decide +kernel)), race_eqL_ok⟩
theorem q_law_taken : S_taken (e_law_taken.fi (cfgOf c0 100000 [e_is_whole, e_is_within, e_is_note, e_are_notes, e_common, e_fraction, e_faces_of, e_far_behind, e_far_nexts, e_greatest_in, e_far_size, e_near_behind, e_near_size, e_near_nexts, e_ways_from, e_has_end, e_is_die, e_Race_init, e_Race_die, e_Race_rule, e_Race_near, e_Race_far, e_Race_eq]) 100000) := law_taken_ok
theorem q_law_notes : S_law_notes (e_law_notes.fi (cfgOf c0 100000 [e_is_whole, e_is_within, e_is_note, e_are_notes, e_common, e_fraction, e_faces_of, e_far_behind, e_far_nexts, e_greatest_in, e_far_size, e_near_behind, e_near_size, e_near_nexts, e_ways_from, e_has_end, e_is_die, e_Race_init, e_Race_die, e_Race_rule, e_Race_near, e_Race_far, e_Race_eq, e_law_taken]) 100000) := law_notes_ok (kn_of (cf := c0) (F := 100000) (s := (.fn "_law_taken")) (S := S_taken) [e_is_whole, e_is_within, e_is_note, e_are_notes, e_common, e_fraction, e_faces_of, e_far_behind, e_far_nexts, e_greatest_in, e_far_size, e_near_behind, e_near_size, e_near_nexts, e_ways_from, e_has_end, e_is_die, e_Race_init, e_Race_die, e_Race_rule, e_Race_near, e_Race_far, e_Race_eq] [] e_law_taken rfl q_law_taken (by decide +kernel))
theorem q_law_faces : S_law_faces (e_law_faces.fi (cfgOf c0 100000 [e_is_whole, e_is_within, e_is_note, e_are_notes, e_common, e_fraction, e_faces_of, e_far_behind, e_far_nexts, e_greatest_in, e_far_size, e_near_behind, e_near_size, e_near_nexts, e_ways_from, e_has_end, e_is_die, e_Race_init, e_Race_die, e_Race_rule, e_Race_near, e_Race_far, e_Race_eq, e_law_taken, e_law_notes]) 100000) := law_faces_ok
theorem q_law_most : S_most (e_law_most.fi (cfgOf c0 100000 [e_is_whole, e_is_within, e_is_note, e_are_notes, e_common, e_fraction, e_faces_of, e_far_behind, e_far_nexts, e_greatest_in, e_far_size, e_near_behind, e_near_size, e_near_nexts, e_ways_from, e_has_end, e_is_die, e_Race_init, e_Race_die, e_Race_rule, e_Race_near, e_Race_far, e_Race_eq, e_law_taken, e_law_notes, e_law_faces]) 100000) := law_most_ok
theorem q_law_least : S_law_least (e_law_least.fi (cfgOf c0 100000 [e_is_whole, e_is_within, e_is_note, e_are_notes, e_common, e_fraction, e_faces_of, e_far_behind, e_far_nexts, e_greatest_in, e_far_size, e_near_behind, e_near_size, e_near_nexts, e_ways_from, e_has_end, e_is_die, e_Race_init, e_Race_die, e_Race_rule, e_Race_near, e_Race_far, e_Race_eq, e_law_taken, e_law_notes, e_law_faces, e_law_most]) 100000) := law_least_ok (kn_of (cf := c0) (F := 100000) (s := (.fn "_law_most")) (S := S_most) [e_is_whole, e_is_within, e_is_note, e_are_notes, e_common, e_fraction, e_faces_of, e_far_behind, e_far_nexts, e_greatest_in, e_far_size, e_near_behind, e_near_size, e_near_nexts, e_ways_from, e_has_end, e_is_die, e_Race_init, e_Race_die, e_Race_rule, e_Race_near, e_Race_far, e_Race_eq, e_law_taken, e_law_notes, e_law_faces] [] e_law_most rfl q_law_most (by decide +kernel))
theorem q_law_next : S_law_next (e_law_next.fi (cfgOf c0 100000 [e_is_whole, e_is_within, e_is_note, e_are_notes, e_common, e_fraction, e_faces_of, e_far_behind, e_far_nexts, e_greatest_in, e_far_size, e_near_behind, e_near_size, e_near_nexts, e_ways_from, e_has_end, e_is_die, e_Race_init, e_Race_die, e_Race_rule, e_Race_near, e_Race_far, e_Race_eq, e_law_taken, e_law_notes, e_law_faces, e_law_most, e_law_least]) 100000) := law_next_ok
theorem q_law_spots : S_law_spots (e_law_spots.fi (cfgOf c0 100000 [e_is_whole, e_is_within, e_is_note, e_are_notes, e_common, e_fraction, e_faces_of, e_far_behind, e_far_nexts, e_greatest_in, e_far_size, e_near_behind, e_near_size, e_near_nexts, e_ways_from, e_has_end, e_is_die, e_Race_init, e_Race_die, e_Race_rule, e_Race_near, e_Race_far, e_Race_eq, e_law_taken, e_law_notes, e_law_faces, e_law_most, e_law_least, e_law_next]) 100000) := law_spots_ok
theorem q_law_ends : S_law_ends (e_law_ends.fi (cfgOf c0 100000 [e_is_whole, e_is_within, e_is_note, e_are_notes, e_common, e_fraction, e_faces_of, e_far_behind, e_far_nexts, e_greatest_in, e_far_size, e_near_behind, e_near_size, e_near_nexts, e_ways_from, e_has_end, e_is_die, e_Race_init, e_Race_die, e_Race_rule, e_Race_near, e_Race_far, e_Race_eq, e_law_taken, e_law_notes, e_law_faces, e_law_most, e_law_least, e_law_next, e_law_spots]) 100000) := law_ends_ok (kn_of (cf := c0) (F := 100000) (s := (.fn "_law_least")) (S := S_law_least) [e_is_whole, e_is_within, e_is_note, e_are_notes, e_common, e_fraction, e_faces_of, e_far_behind, e_far_nexts, e_greatest_in, e_far_size, e_near_behind, e_near_size, e_near_nexts, e_ways_from, e_has_end, e_is_die, e_Race_init, e_Race_die, e_Race_rule, e_Race_near, e_Race_far, e_Race_eq, e_law_taken, e_law_notes, e_law_faces, e_law_most] [e_law_next, e_law_spots] e_law_least rfl q_law_least (by decide +kernel)) (kn_of (cf := c0) (F := 100000) (s := (.fn "_law_spots")) (S := S_law_spots) [e_is_whole, e_is_within, e_is_note, e_are_notes, e_common, e_fraction, e_faces_of, e_far_behind, e_far_nexts, e_greatest_in, e_far_size, e_near_behind, e_near_size, e_near_nexts, e_ways_from, e_has_end, e_is_die, e_Race_init, e_Race_die, e_Race_rule, e_Race_near, e_Race_far, e_Race_eq, e_law_taken, e_law_notes, e_law_faces, e_law_most, e_law_least, e_law_next] [] e_law_spots rfl q_law_spots (by decide +kernel)) (kn_of (cf := c0) (F := 100000) (s := (.fn "_law_faces")) (S := S_law_faces) [e_is_whole, e_is_within, e_is_note, e_are_notes, e_common, e_fraction, e_faces_of, e_far_behind, e_far_nexts, e_greatest_in, e_far_size, e_near_behind, e_near_size, e_near_nexts, e_ways_from, e_has_end, e_is_die, e_Race_init, e_Race_die, e_Race_rule, e_Race_near, e_Race_far, e_Race_eq, e_law_taken, e_law_notes] [e_law_most, e_law_least, e_law_next, e_law_spots] e_law_faces rfl q_law_faces (by decide +kernel)) (kn_of (cf := c0) (F := 100000) (s := (.fn "_law_next")) (S := S_law_next) [e_is_whole, e_is_within, e_is_note, e_are_notes, e_common, e_fraction, e_faces_of, e_far_behind, e_far_nexts, e_greatest_in, e_far_size, e_near_behind, e_near_size, e_near_nexts, e_ways_from, e_has_end, e_is_die, e_Race_init, e_Race_die, e_Race_rule, e_Race_near, e_Race_far, e_Race_eq, e_law_taken, e_law_notes, e_law_faces, e_law_most, e_law_least] [e_law_spots] e_law_next rfl q_law_next (by decide +kernel))
theorem q_law_drawn : S_law_drawn (e_law_drawn.fi (cfgOf c0 100000 [e_is_whole, e_is_within, e_is_note, e_are_notes, e_common, e_fraction, e_faces_of, e_far_behind, e_far_nexts, e_greatest_in, e_far_size, e_near_behind, e_near_size, e_near_nexts, e_ways_from, e_has_end, e_is_die, e_Race_init, e_Race_die, e_Race_rule, e_Race_near, e_Race_far, e_Race_eq, e_law_taken, e_law_notes, e_law_faces, e_law_most, e_law_least, e_law_next, e_law_spots, e_law_ends]) 100000) := law_drawn_ok (kn_of (cf := c0) (F := 100000) (s := (.fn "_law_taken")) (S := S_taken) [e_is_whole, e_is_within, e_is_note, e_are_notes, e_common, e_fraction, e_faces_of, e_far_behind, e_far_nexts, e_greatest_in, e_far_size, e_near_behind, e_near_size, e_near_nexts, e_ways_from, e_has_end, e_is_die, e_Race_init, e_Race_die, e_Race_rule, e_Race_near, e_Race_far, e_Race_eq] [e_law_notes, e_law_faces, e_law_most, e_law_least, e_law_next, e_law_spots, e_law_ends] e_law_taken rfl q_law_taken (by decide +kernel)) (kn_of (cf := c0) (F := 100000) (s := (.fn "_law_notes")) (S := S_law_notes) [e_is_whole, e_is_within, e_is_note, e_are_notes, e_common, e_fraction, e_faces_of, e_far_behind, e_far_nexts, e_greatest_in, e_far_size, e_near_behind, e_near_size, e_near_nexts, e_ways_from, e_has_end, e_is_die, e_Race_init, e_Race_die, e_Race_rule, e_Race_near, e_Race_far, e_Race_eq, e_law_taken] [e_law_faces, e_law_most, e_law_least, e_law_next, e_law_spots, e_law_ends] e_law_notes rfl q_law_notes (by decide +kernel)) (kn_of (cf := c0) (F := 100000) (s := (.fn "_law_ends")) (S := S_law_ends) [e_is_whole, e_is_within, e_is_note, e_are_notes, e_common, e_fraction, e_faces_of, e_far_behind, e_far_nexts, e_greatest_in, e_far_size, e_near_behind, e_near_size, e_near_nexts, e_ways_from, e_has_end, e_is_die, e_Race_init, e_Race_die, e_Race_rule, e_Race_near, e_Race_far, e_Race_eq, e_law_taken, e_law_notes, e_law_faces, e_law_most, e_law_least, e_law_next, e_law_spots] [] e_law_ends rfl q_law_ends (by decide +kernel))
theorem q_law_with : S_law_withG (e_law_with.fi (cfgOf c0 100000 [e_is_whole, e_is_within, e_is_note, e_are_notes, e_common, e_fraction, e_faces_of, e_far_behind, e_far_nexts, e_greatest_in, e_far_size, e_near_behind, e_near_size, e_near_nexts, e_ways_from, e_has_end, e_is_die, e_Race_init, e_Race_die, e_Race_rule, e_Race_near, e_Race_far, e_Race_eq, e_law_taken, e_law_notes, e_law_faces, e_law_most, e_law_least, e_law_next, e_law_spots, e_law_ends, e_law_drawn]) 100000) := law_withG_ok
theorem q_law_made : (fun fi => S_law_made fi ∧ S_law_madeX fi) (e_law_made.fi (cfgOf c0 100000 [e_is_whole, e_is_within, e_is_note, e_are_notes, e_common, e_fraction, e_faces_of, e_far_behind, e_far_nexts, e_greatest_in, e_far_size, e_near_behind, e_near_size, e_near_nexts, e_ways_from, e_has_end, e_is_die, e_Race_init, e_Race_die, e_Race_rule, e_Race_near, e_Race_far, e_Race_eq, e_law_taken, e_law_notes, e_law_faces, e_law_most, e_law_least, e_law_next, e_law_spots, e_law_ends, e_law_drawn, e_law_with]) 100000) := ⟨law_made_ok (kn_l (kn_of (cf := c0) (F := 100000) (s := (.ini "Race")) (S := (fun fi => S_race_init fi ∧ S_race_initX fi ∧ S_race_initE fi)) [e_is_whole, e_is_within, e_is_note, e_are_notes, e_common, e_fraction, e_faces_of, e_far_behind, e_far_nexts, e_greatest_in, e_far_size, e_near_behind, e_near_size, e_near_nexts, e_ways_from, e_has_end, e_is_die] [e_Race_die, e_Race_rule, e_Race_near, e_Race_far, e_Race_eq, e_law_taken, e_law_notes, e_law_faces, e_law_most, e_law_least, e_law_next, e_law_spots, e_law_ends, e_law_drawn, e_law_with] e_Race_init rfl q_Race_init (by decide +kernel))), law_madeX_ok (kn_r (kn_of (cf := c0) (F := 100000) (s := (.ini "Race")) (S := (fun fi => S_race_init fi ∧ S_race_initX fi ∧ S_race_initE fi)) [e_is_whole, e_is_within, e_is_note, e_are_notes, e_common, e_fraction, e_faces_of, e_far_behind, e_far_nexts, e_greatest_in, e_far_size, e_near_behind, e_near_size, e_near_nexts, e_ways_from, e_has_end, e_is_die] [e_Race_die, e_Race_rule, e_Race_near, e_Race_far, e_Race_eq, e_law_taken, e_law_notes, e_law_faces, e_law_most, e_law_least, e_law_next, e_law_spots, e_law_ends, e_law_drawn, e_law_with] e_Race_init rfl q_Race_init (by decide +kernel)))⟩
theorem q_law_refused : S_law_refused (e_law_refused.fi (cfgOf c0 100000 [e_is_whole, e_is_within, e_is_note, e_are_notes, e_common, e_fraction, e_faces_of, e_far_behind, e_far_nexts, e_greatest_in, e_far_size, e_near_behind, e_near_size, e_near_nexts, e_ways_from, e_has_end, e_is_die, e_Race_init, e_Race_die, e_Race_rule, e_Race_near, e_Race_far, e_Race_eq, e_law_taken, e_law_notes, e_law_faces, e_law_most, e_law_least, e_law_next, e_law_spots, e_law_ends, e_law_drawn, e_law_with, e_law_made]) 100000) := law_refused_ok (cfH_of c0_H) (kn_of (cf := c0) (F := 100000) (s := (.fn "_law_made")) (S := (fun fi => S_law_made fi ∧ S_law_madeX fi)) [e_is_whole, e_is_within, e_is_note, e_are_notes, e_common, e_fraction, e_faces_of, e_far_behind, e_far_nexts, e_greatest_in, e_far_size, e_near_behind, e_near_size, e_near_nexts, e_ways_from, e_has_end, e_is_die, e_Race_init, e_Race_die, e_Race_rule, e_Race_near, e_Race_far, e_Race_eq, e_law_taken, e_law_notes, e_law_faces, e_law_most, e_law_least, e_law_next, e_law_spots, e_law_ends, e_law_drawn, e_law_with] [] e_law_made rfl q_law_made (by decide +kernel))
theorem q_law_odd_notes : S_law_odd_notes (e_law_odd_notes.fi (cfgOf c0 100000 [e_is_whole, e_is_within, e_is_note, e_are_notes, e_common, e_fraction, e_faces_of, e_far_behind, e_far_nexts, e_greatest_in, e_far_size, e_near_behind, e_near_size, e_near_nexts, e_ways_from, e_has_end, e_is_die, e_Race_init, e_Race_die, e_Race_rule, e_Race_near, e_Race_far, e_Race_eq, e_law_taken, e_law_notes, e_law_faces, e_law_most, e_law_least, e_law_next, e_law_spots, e_law_ends, e_law_drawn, e_law_with, e_law_made, e_law_refused]) 100000) := law_odd_notes_ok
theorem law_run (ns : List Int) (h : ns.length ≤ 63) : (e_law.fi cfA 100000).sem [.scr (ns.map .int)] = some (.ret false (.bl true) []) := k02_run (kn_of (cf := c0) (F := 100000) (s := (.fn "_law_drawn")) (S := S_law_drawn) [e_is_whole, e_is_within, e_is_note, e_are_notes, e_common, e_fraction, e_faces_of, e_far_behind, e_far_nexts, e_greatest_in, e_far_size, e_near_behind, e_near_size, e_near_nexts, e_ways_from, e_has_end, e_is_die, e_Race_init, e_Race_die, e_Race_rule, e_Race_near, e_Race_far, e_Race_eq, e_law_taken, e_law_notes, e_law_faces, e_law_most, e_law_least, e_law_next, e_law_spots, e_law_ends] [e_law_with, e_law_made, e_law_refused, e_law_odd_notes] e_law_drawn rfl q_law_drawn (by decide +kernel)) (kn_of (cf := c0) (F := 100000) (s := (.fn "_law_taken")) (S := S_taken) [e_is_whole, e_is_within, e_is_note, e_are_notes, e_common, e_fraction, e_faces_of, e_far_behind, e_far_nexts, e_greatest_in, e_far_size, e_near_behind, e_near_size, e_near_nexts, e_ways_from, e_has_end, e_is_die, e_Race_init, e_Race_die, e_Race_rule, e_Race_near, e_Race_far, e_Race_eq] [e_law_notes, e_law_faces, e_law_most, e_law_least, e_law_next, e_law_spots, e_law_ends, e_law_drawn, e_law_with, e_law_made, e_law_refused, e_law_odd_notes] e_law_taken rfl q_law_taken (by decide +kernel)) (kn_of (cf := c0) (F := 100000) (s := (.fn "_law_with")) (S := S_law_withG) [e_is_whole, e_is_within, e_is_note, e_are_notes, e_common, e_fraction, e_faces_of, e_far_behind, e_far_nexts, e_greatest_in, e_far_size, e_near_behind, e_near_size, e_near_nexts, e_ways_from, e_has_end, e_is_die, e_Race_init, e_Race_die, e_Race_rule, e_Race_near, e_Race_far, e_Race_eq, e_law_taken, e_law_notes, e_law_faces, e_law_most, e_law_least, e_law_next, e_law_spots, e_law_ends, e_law_drawn] [e_law_made, e_law_refused, e_law_odd_notes] e_law_with rfl q_law_with (by decide +kernel)) (kn_of (cf := c0) (F := 100000) (s := (.fn "_law_odd_notes")) (S := S_law_odd_notes) [e_is_whole, e_is_within, e_is_note, e_are_notes, e_common, e_fraction, e_faces_of, e_far_behind, e_far_nexts, e_greatest_in, e_far_size, e_near_behind, e_near_size, e_near_nexts, e_ways_from, e_has_end, e_is_die, e_Race_init, e_Race_die, e_Race_rule, e_Race_near, e_Race_far, e_Race_eq, e_law_taken, e_law_notes, e_law_faces, e_law_most, e_law_least, e_law_next, e_law_spots, e_law_ends, e_law_drawn, e_law_with, e_law_made, e_law_refused] [] e_law_odd_notes rfl q_law_odd_notes (by decide +kernel)) (kn_of (cf := c0) (F := 100000) (s := (.fn "_law_refused")) (S := S_law_refused) [e_is_whole, e_is_within, e_is_note, e_are_notes, e_common, e_fraction, e_faces_of, e_far_behind, e_far_nexts, e_greatest_in, e_far_size, e_near_behind, e_near_size, e_near_nexts, e_ways_from, e_has_end, e_is_die, e_Race_init, e_Race_die, e_Race_rule, e_Race_near, e_Race_far, e_Race_eq, e_law_taken, e_law_notes, e_law_faces, e_law_most, e_law_least, e_law_next, e_law_spots, e_law_ends, e_law_drawn, e_law_with, e_law_made] [e_law_odd_notes] e_law_refused rfl q_law_refused (by decide +kernel)) (kn_of (cf := c0) (F := 100000) (s := (.fn "_law_notes")) (S := S_law_notes) [e_is_whole, e_is_within, e_is_note, e_are_notes, e_common, e_fraction, e_faces_of, e_far_behind, e_far_nexts, e_greatest_in, e_far_size, e_near_behind, e_near_size, e_near_nexts, e_ways_from, e_has_end, e_is_die, e_Race_init, e_Race_die, e_Race_rule, e_Race_near, e_Race_far, e_Race_eq, e_law_taken] [e_law_faces, e_law_most, e_law_least, e_law_next, e_law_spots, e_law_ends, e_law_drawn, e_law_with, e_law_made, e_law_refused, e_law_odd_notes] e_law_notes rfl q_law_notes (by decide +kernel)) (kn_of (cf := c0) (F := 100000) (s := (.fn "_law_ends")) (S := S_law_ends) [e_is_whole, e_is_within, e_is_note, e_are_notes, e_common, e_fraction, e_faces_of, e_far_behind, e_far_nexts, e_greatest_in, e_far_size, e_near_behind, e_near_size, e_near_nexts, e_ways_from, e_has_end, e_is_die, e_Race_init, e_Race_die, e_Race_rule, e_Race_near, e_Race_far, e_Race_eq, e_law_taken, e_law_notes, e_law_faces, e_law_most, e_law_least, e_law_next, e_law_spots] [e_law_drawn, e_law_with, e_law_made, e_law_refused, e_law_odd_notes] e_law_ends rfl q_law_ends (by decide +kernel)) ns
end Rl
open PySem PySem.W PyProof.Rows
theorem PySem.Challenge.cw_racelengths_k02_races_refused_holds : PySem.Challenge.rw_racelengths_k02_races_refused.Holds := by
  w_on; o_law; k_head; (case hw => w_witness2)
  k_fill
  refine L2.walk_of (l := PySem.Challenge.rw_racelengths_k02_races_refused) (n := 63) (k := 1 + 2 * Rl.ents.length + 2) (x := "_law_script") (CX := fun w => L2.CX PySem.Challenge.pw_racelengths_k02_races_refused w) (sp := fun w => Rl.spLaw _) rfl (by decide) rfl ⟨rfl, by decide, by decide⟩ (fun w h Y => PySem.W.kIn_of Y) ?F (fun _ _ a ns hl _ hS => ⟨a, ns, rfl, hS, hl, fun _ => rfl⟩) (fun _ _ _ _ _ h => Rl.cx_none h)
  case F =>
    intro w mg fa h KX G hmg
    refine' (Rl.all_mk (P := PySem.Challenge.pw_racelengths_k02_races_refused) (w := w) KX G hmg ?mCC1 ?a1 ?l1 ?c1 ?k1 ?a2 ?l2 ?c2 ?k2 ?a3 ?l3 ?c3 ?k3 ?a4 ?l4 ?c4 ?k4 ?a5 ?l5 ?c5 ?k5 ?a6 ?l6 ?c6 ?k6 ?a7 ?l7 ?c7 ?k7 ?a8 ?l8 ?c8 ?k8 ?a9 ?l9 ?c9 ?k9 ?a10 ?l10 ?c10 ?k10 ?a11 ?l11 ?c11 ?k11 ?a12 ?l12 ?c12 ?k12 ?a13 ?l13 ?c13 ?k13 ?a14 ?l14 ?c14 ?k14 ?a15 ?l15 ?c15 ?k15 ?a16 ?l16 ?c16 ?k16 ?a17 ?l17 ?c17 ?k17 ?a18 ?i18 ?l18 ?c18 ?k18 ?a19 ?g19 ?t19 ?r19 ?l19 ?c19 ?k19 ?a20 ?g20 ?t20 ?r20 ?l20 ?c20 ?k20 ?a21 ?g21 ?t21 ?r21 ?l21 ?c21 ?k21 ?a22 ?g22 ?t22 ?r22 ?l22 ?c22 ?k22 ?a23 ?i23 ?l23 ?c23 ?k23 ?a24 ?l24 ?c24 ?k24 ?a25 ?l25 ?c25 ?k25 ?a26 ?l26 ?c26 ?k26 ?a27 ?l27 ?c27 ?k27 ?a28 ?l28 ?c28 ?k28 ?a29 ?l29 ?c29 ?k29 ?a30 ?l30 ?c30 ?k30 ?a31 ?l31 ?c31 ?k31 ?a32 ?l32 ?c32 ?k32 ?a33 ?l33 ?c33 ?k33 ?a34 ?l34 ?c34 ?k34 ?a35 ?l35 ?c35 ?k35 ?a36 ?l36 ?c36 ?k36 ?a37 ?l37 ?c37 ?k37 ?pgC1 ?hdC1 ?poC1 ?saC1 ?mkC1 ?kcC1 ?naC1_0 ?naC1_1 ?naC1_2 ?naC1_3 ?naC1_4 ?naC1_5 ?naC1_6 ?isC1 ?tyC1 ?ktC1_0 ?ktC1_1 ?ktC1_2 ?ktC1_3 ?ktC1_4 ?ktC1_5 ?ktC1_6 ?clC1 ?moC1 ?neC1 ?suC1 ?gs ?ts ?b0 ?b1 ?b2 ?b3 ?b4 ?b5 ?b6 ?b7 ?b8 ?b9 ?b10 ?b11 ?b12 ?b13 ?b14 ?b15 ?b16 ?G0 ?G1 ?G2 ?G3 ?G4 ?GL4 ?G5 ?G6 ?mBB ?spBB ?rdBB ?fcBB ?mX1 ?LX1 ?saX1 ?gaX1 ?ggX1 ?inX1 ?tfX1 ?lX1 ?cX1 ?kfX1 ?kcX1 ?ecX1 ?tyX1 ?hdX1 ?icX1 ?mX2 ?LX2 ?saX2 ?gaX2 ?ggX2 ?inX2 ?tfX2 ?lX2 ?cX2 ?kfX2 ?kcX2 ?ecX2 ?tyX2 ?hdX2 ?icX2 ?mX3 ?LX3 ?saX3 ?gaX3 ?ggX3 ?inX3 ?tfX3 ?lX3 ?cX3 ?kfX3 ?kcX3 ?ecX3 ?tyX3 ?hdX3 ?icX3 ?mX4 ?LX4 ?saX4 ?gaX4 ?ggX4 ?nbX4_0 ?inX4 ?tfX4 ?lX4 ?cX4 ?kfX4 ?kcX4 ?ecX4 ?tyX4 ?hdX4 ?icX4 ?sbX1_X1 ?sbX1_X2 ?sbX1_X4 ?sbX1_X3 ?sbX2_X1 ?sbX2_X2 ?sbX2_X4 ?sbX2_X3 ?sbX3_X1 ?sbX3_X2 ?sbX3_X4 ?sbX3_X3 ?sbX4_X1 ?sbX4_X2 ?sbX4_X4 ?sbX4_X3).elim fun N x => x.elim fun fd y => ⟨fd, y.1, fun base hK hN => (y.2 base hK hN).imp fun vs H Q E z => Rl.law_end rfl Rl.law_run vs H Q E z⟩
    (case mCC1 => k_is)
    (case a1 => k_is)
    (case l1 => k_is)
    (case c1 => k_is)
    (case k1 => k_is)
    (case a2 => k_is)
    (case l2 => k_is)
    (case c2 => k_is)
    (case k2 => k_is)
    (case a3 => k_is)
    (case l3 => k_is)
    (case c3 => k_is)
    (case k3 => k_is)
    (case a4 => k_is)
    (case l4 => k_is)
    (case c4 => k_is)
    (case k4 => k_is)
    (case a5 => k_is)
    (case l5 => k_is)
    (case c5 => k_is)
    (case k5 => k_is)
    (case a6 => k_is)
    (case l6 => k_is)
    (case c6 => k_is)
    (case k6 => k_is)
    (case a7 => k_is)
    (case l7 => k_is)
    (case c7 => k_is)
    (case k7 => k_is)
    (case a8 => k_is)
    (case l8 => k_is)
    (case c8 => k_is)
    (case k8 => k_is)
    (case a9 => k_is)
    (case l9 => k_is)
    (case c9 => k_is)
    (case k9 => k_is)
    (case a10 => k_is)
    (case l10 => k_is)
    (case c10 => k_is)
    (case k10 => k_is)
    (case a11 => k_is)
    (case l11 => k_is)
    (case c11 => k_is)
    (case k11 => k_is)
    (case a12 => k_is)
    (case l12 => k_is)
    (case c12 => k_is)
    (case k12 => k_is)
    (case a13 => k_is)
    (case l13 => k_is)
    (case c13 => k_is)
    (case k13 => k_is)
    (case a14 => k_is)
    (case l14 => k_is)
    (case c14 => k_is)
    (case k14 => k_is)
    (case a15 => k_is)
    (case l15 => k_is)
    (case c15 => k_is)
    (case k15 => k_is)
    (case a16 => k_is)
    (case l16 => k_is)
    (case c16 => k_is)
    (case k16 => k_is)
    (case a17 => k_is)
    (case l17 => k_is)
    (case c17 => k_is)
    (case k17 => k_is)
    (case a18 => k_is)
    (case i18 => k_is)
    (case l18 => k_is)
    (case c18 => k_is)
    (case k18 => k_is)
    (case a19 => k_is)
    (case g19 => k_is)
    (case t19 => k_is)
    (case r19 => k_is)
    (case l19 => k_is)
    (case c19 => k_is)
    (case k19 => k_is)
    (case a20 => k_is)
    (case g20 => k_is)
    (case t20 => k_is)
    (case r20 => k_is)
    (case l20 => k_is)
    (case c20 => k_is)
    (case k20 => k_is)
    (case a21 => k_is)
    (case g21 => k_is)
    (case t21 => k_is)
    (case r21 => k_is)
    (case l21 => k_is)
    (case c21 => k_is)
    (case k21 => k_is)
    (case a22 => k_is)
    (case g22 => k_is)
    (case t22 => k_is)
    (case r22 => k_is)
    (case l22 => k_is)
    (case c22 => k_is)
    (case k22 => k_is)
    (case a23 => k_is)
    (case i23 => k_is)
    (case l23 => k_is)
    (case c23 => k_is)
    (case k23 => k_is)
    (case a24 => k_is)
    (case l24 => k_is)
    (case c24 => k_is)
    (case k24 => k_is)
    (case a25 => k_is)
    (case l25 => k_is)
    (case c25 => k_is)
    (case k25 => k_is)
    (case a26 => k_is)
    (case l26 => k_is)
    (case c26 => k_is)
    (case k26 => k_is)
    (case a27 => k_is)
    (case l27 => k_is)
    (case c27 => k_is)
    (case k27 => k_is)
    (case a28 => k_is)
    (case l28 => k_is)
    (case c28 => k_is)
    (case k28 => k_is)
    (case a29 => k_is)
    (case l29 => k_is)
    (case c29 => k_is)
    (case k29 => k_is)
    (case a30 => k_is)
    (case l30 => k_is)
    (case c30 => k_is)
    (case k30 => k_is)
    (case a31 => k_is)
    (case l31 => k_is)
    (case c31 => k_is)
    (case k31 => k_is)
    (case a32 => k_is)
    (case l32 => k_is)
    (case c32 => k_is)
    (case k32 => k_is)
    (case a33 => k_is)
    (case l33 => k_is)
    (case c33 => k_is)
    (case k33 => k_is)
    (case a34 => k_is)
    (case l34 => k_is)
    (case c34 => k_is)
    (case k34 => k_is)
    (case a35 => k_is)
    (case l35 => k_is)
    (case c35 => k_is)
    (case k35 => k_is)
    (case a36 => k_is)
    (case l36 => k_is)
    (case c36 => k_is)
    (case k36 => k_is)
    (case a37 => k_is)
    (case l37 => k_is)
    (case c37 => k_is)
    (case k37 => k_is)
    (case pgC1 => k_is)
    (case hdC1 => k_is)
    (case poC1 => k_is)
    (case saC1 => k_is)
    (case mkC1 => k_is)
    (case kcC1 => k_is)
    (case naC1_0 => k_is)
    (case naC1_1 => k_is)
    (case naC1_2 => k_is)
    (case naC1_3 => k_is)
    (case naC1_4 => k_is)
    (case naC1_5 => k_is)
    (case naC1_6 => k_is)
    (case isC1 => k_is)
    (case tyC1 => k_is)
    (case ktC1_0 => k_is)
    (case ktC1_1 => k_is)
    (case ktC1_2 => k_is)
    (case ktC1_3 => k_is)
    (case ktC1_4 => k_is)
    (case ktC1_5 => k_is)
    (case ktC1_6 => k_is)
    (case clC1 => k_is)
    (case moC1 => k_is)
    (case neC1 => k_is)
    (case suC1 => k_is)
    (case gs => k_is)
    (case ts => k_is)
    (case b0 => k_is)
    (case b1 => k_is)
    (case b2 => k_is)
    (case b3 => k_is)
    (case b4 => k_is)
    (case b5 => k_is)
    (case b6 => k_is)
    (case b7 => k_is)
    (case b8 => k_is)
    (case b9 => k_is)
    (case b10 => k_is)
    (case b11 => k_is)
    (case b12 => k_is)
    (case b13 => k_is)
    (case b14 => k_is)
    (case b15 => k_is)
    (case b16 => k_is)
    (case G0 => k_is)
    (case G1 => k_is)
    (case G2 => k_is)
    (case G3 => k_is)
    (case G4 => k_is)
    (case GL4 => k_is)
    (case G5 => k_is)
    (case G6 => k_is)
    (case mBB => k_is)
    (case spBB => k_is)
    (case rdBB => k_is)
    (case fcBB => k_is)
    (case mX1 => k_is)
    (case LX1 => k_is)
    (case saX1 => k_is)
    (case gaX1 => k_is)
    (case ggX1 => k_is)
    (case inX1 => k_is)
    (case tfX1 => k_is)
    (case lX1 => k_is)
    (case cX1 => k_is)
    (case kfX1 => k_is)
    (case kcX1 => k_is)
    (case ecX1 => k_is)
    (case tyX1 => k_is)
    (case hdX1 => k_is)
    (case icX1 => k_is)
    (case mX2 => k_is)
    (case LX2 => k_is)
    (case saX2 => k_is)
    (case gaX2 => k_is)
    (case ggX2 => k_is)
    (case inX2 => k_is)
    (case tfX2 => k_is)
    (case lX2 => k_is)
    (case cX2 => k_is)
    (case kfX2 => k_is)
    (case kcX2 => k_is)
    (case ecX2 => k_is)
    (case tyX2 => k_is)
    (case hdX2 => k_is)
    (case icX2 => k_is)
    (case mX3 => k_is)
    (case LX3 => k_is)
    (case saX3 => k_is)
    (case gaX3 => k_is)
    (case ggX3 => k_is)
    (case inX3 => k_is)
    (case tfX3 => k_is)
    (case lX3 => k_is)
    (case cX3 => k_is)
    (case kfX3 => k_is)
    (case kcX3 => k_is)
    (case ecX3 => k_is)
    (case tyX3 => k_is)
    (case hdX3 => k_is)
    (case icX3 => k_is)
    (case mX4 => k_is)
    (case LX4 => k_is)
    (case saX4 => k_is)
    (case gaX4 => k_is)
    (case ggX4 => k_is)
    (case nbX4_0 => k_is)
    (case inX4 => k_is)
    (case tfX4 => k_is)
    (case lX4 => k_is)
    (case cX4 => k_is)
    (case kfX4 => k_is)
    (case kcX4 => k_is)
    (case ecX4 => k_is)
    (case tyX4 => k_is)
    (case hdX4 => k_is)
    (case icX4 => k_is)
    (case sbX1_X1 => first | rfl | k_is)
    (case sbX1_X2 => first | rfl | k_is)
    (case sbX1_X4 => first | rfl | k_is)
    (case sbX1_X3 => first | rfl | k_is)
    (case sbX2_X1 => first | rfl | k_is)
    (case sbX2_X2 => first | rfl | k_is)
    (case sbX2_X4 => first | rfl | k_is)
    (case sbX2_X3 => first | rfl | k_is)
    (case sbX3_X1 => first | rfl | k_is)
    (case sbX3_X2 => first | rfl | k_is)
    (case sbX3_X4 => first | rfl | k_is)
    (case sbX3_X3 => first | rfl | k_is)
    (case sbX4_X1 => first | rfl | k_is)
    (case sbX4_X2 => first | rfl | k_is)
    (case sbX4_X4 => first | rfl | k_is)
    (case sbX4_X3 => first | rfl | k_is)
