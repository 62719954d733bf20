import PyProof.Rows.All
import Wide.All
import OpenK.AllK
import Wide.FinOn
import HandS.ForMost
import HandS.ForExc
import HandS.Wide
import HandS.Flow
import HandS.IsInst
import HandS.Style
import HandS.HeadHook2
import HandS.SortInts
import HandS.Zip
import HandS.CallLocal
import HandS.Deep
import HandS.TupAny
import HandS.Strs
import HandS.HeadEnd
import HandS.Iter
import HandS.SetFor
import HandS.WordsDict
import HandS.Dict
import PyProof.Rows.SetFrom
import HandS.TupMul
import KE.KStateDown
import Lean
import PySem.Challenge.RW_primessure_k82_whole_sums_of_powers
import HandS.Head0
import HandS.Head1
import HandS.Head2
import HandS.HeadHook1
set_option Elab.async false
set_option linter.all false
set_option maxRecDepth 100000
set_option maxHeartbeats 0
section
set_option autoImplicit true
/-! DL: values as data; expressions and statements as functions of data. -/
namespace DL
open PySem PySem.Spec PyProof.Rows L2

/-- a value as data -/
inductive D where
  | non | bl (b : Bool) | int (i : Int) | str (s : Str)
  | tup (l : List D) | lst (l : List D) | dct (l : List (Key × D))
  | ref (x : Str) | hd (n : Nat) | scr (l : List Int) | ty (n : String)

section
variable (K : PySem.W.Frag) (Hf : Hp) (ρ : List Addr)
mutual
def Dt : D → V → Prop
  | .non, v => v = .non
  | .bl b, v => v = .bl b
  | .int i, v => v = .int i
  | .str s, v => v = .str s
  | .ref x, v => v = .ref (He.ga K x)
  | .ty n, v => v = .ty n
  | .hd n, v => ∃ a, ρ[n]? = some a ∧ v = .ref a
  | .scr l, v => ∃ a, v = .ref a ∧ SqL K Hf a (l.map V.int)
  | .tup l, v => ∃ a vs, v = .ref a ∧ SqT K Hf a vs ∧ Dts l vs
  | .lst l, v => ∃ a vs, v = .ref a ∧ Hf a = some (.lst vs) ∧ Dts l vs
  | .dct l, v => ∃ a o kvs, v = .ref a ∧ Hf a = some (.frz o (.dK kvs)) ∧ Dks l kvs
def Dts : List D → List V → Prop
  | [], vs => vs = []
  | d :: l, vs => ∃ v r, vs = v :: r ∧ Dt d v ∧ Dts l r
def Dks : List (Key × D) → List (Key × V) → Prop
  | [], vs => vs = []
  | (k, d) :: l, vs => ∃ v r, vs = (k, v) :: r ∧ Dt d v ∧ Dks l r
end
end

/-- the frozen part grows -/
def Ext (Hf Hf' : Hp) : Prop := ∀ a o, Hf a = some o → Hf' a = some o
def Pre (ρ ρ' : List Addr) : Prop := ∀ (n : Nat) (a : Addr), ρ[n]? = some a → ρ'[n]? = some a
theorem Ext.refl (H : Hp) : Ext H H := fun _ _ h => h
theorem Ext.trans {a b c : Hp} (h : Ext a b) (g : Ext b c) : Ext a c := fun x o e => g x o (h x o e)
theorem Pre.refl (r : List Addr) : Pre r r := fun _ _ h => h
theorem Pre.trans {a b c : List Addr} (h : Pre a b) (g : Pre b c) : Pre a c := fun x o e => g x o (h x o e)
theorem Ext.sqT {K : PySem.W.Frag} {H H' : Hp} {a : Addr} {xs : List V} (e : Ext H H') (h : SqT K H a xs) : SqT K H' a xs := by
  rcases h with (h | ⟨o, h⟩) | h
  · exact .inl (.inl (e _ _ h))
  · exact .inl (.inr ⟨o, e _ _ h⟩)
  · exact .inr h
theorem Ext.sqL {K : PySem.W.Frag} {H H' : Hp} {a : Addr} {xs : List V} (e : Ext H H') (h : SqL K H a xs) : SqL K H' a xs := by
  rcases h with (h | ⟨o, h⟩) | h
  · exact .inl (.inl (e _ _ h))
  · exact .inl (.inr ⟨o, e _ _ h⟩)
  · exact .inr h
section
variable {K : PySem.W.Frag} {Hf Hf' : Hp} {ρ ρ' : List Addr}
mutual
theorem Dt.mono (e : Ext Hf Hf') (p : Pre ρ ρ') : ∀ (d : D) (v : V), Dt K Hf ρ d v → Dt K Hf' ρ' d v
  | .non, v, h => by simpa [Dt] using h
  | .bl b, v, h => by simpa [Dt] using h
  | .int i, v, h => by simpa [Dt] using h
  | .str s, v, h => by simpa [Dt] using h
  | .ref a, v, h => by simpa [Dt] using h
  | .ty a, v, h => by simpa [Dt] using h
  | .hd n, v, h => by
    simp only [Dt] at h ⊢
    obtain ⟨a, h1, h2⟩ := h
    exact ⟨a, p _ _ h1, h2⟩
  | .scr l, v, h => by
    simp only [Dt] at h ⊢
    obtain ⟨a, h1, h2⟩ := h
    exact ⟨a, h1, e.sqL h2⟩
  | .tup l, v, h => by
    simp only [Dt] at h ⊢
    obtain ⟨a, vs, h1, h2, h3⟩ := h
    exact ⟨a, vs, h1, e.sqT h2, Dts.mono e p l vs h3⟩
  | .lst l, v, h => by
    simp only [Dt] at h ⊢
    obtain ⟨a, vs, h1, h2, h3⟩ := h
    exact ⟨a, vs, h1, e _ _ h2, Dts.mono e p l vs h3⟩
  | .dct l, v, h => by
    simp only [Dt] at h ⊢
    obtain ⟨a, o, vs, h1, h2, h3⟩ := h
    exact ⟨a, o, vs, h1, e _ _ h2, Dks.mono e p l vs h3⟩
theorem Dts.mono (e : Ext Hf Hf') (p : Pre ρ ρ') : ∀ (l : List D) (vs : List V), Dts K Hf ρ l vs → Dts K Hf' ρ' l vs
  | [], vs, h => by simpa [Dts] using h
  | d :: l, vs, h => by
    simp only [Dts] at h ⊢
    obtain ⟨v, r, h1, h2, h3⟩ := h
    exact ⟨v, r, h1, Dt.mono e p d v h2, Dts.mono e p l r h3⟩
theorem Dks.mono (e : Ext Hf Hf') (p : Pre ρ ρ') : ∀ (l : List (Key × D)) (vs : List (Key × V)), Dks K Hf ρ l vs → Dks K Hf' ρ' l vs
  | [], vs, h => by simpa [Dks] using h
  | (k, d) :: l, vs, h => by
    simp only [Dks] at h ⊢
    obtain ⟨v, r, h1, h2, h3⟩ := h
    exact ⟨v, r, h1, Dt.mono e p d v h2, Dks.mono e p l r h3⟩
end
end
end DL

end

section
set_option autoImplicit false
set_option autoImplicit false
namespace DL
open PySem PySem.Spec PyProof.Rows L2

/-- a mutable thing that several hold: a list, an instance of a class -/
inductive Cell where
  | lst (l : List D)
  | ins (C : Str) (fs : List (Str × D))
abbrev Store := List Cell

section
variable (K : PySem.W.Frag) (Hf : Hp) (ρ : List Addr)
def Dfs : List (Str × D) → List (Str × V) → Prop
  | [], vs => vs = []
  | (k, d) :: l, vs => ∃ v r, vs = (k, v) :: r ∧ Dt K Hf ρ d v ∧ Dfs l r
def CellOk (H : Hp) (a : Addr) : Cell → Prop
  | .lst l => ∃ vs, H a = some (.lst vs) ∧ Dts K Hf ρ l vs
  | .ins C fs => ∃ dx gs, H a = some (.ins (He.ga K C) dx gs) ∧ Dfs K Hf ρ fs gs
end
section
variable {K : PySem.W.Frag} {Hf Hf' : Hp} {ρ ρ' : List Addr}
theorem Dfs.mono (e : Ext Hf Hf') (p : Pre ρ ρ') : ∀ (l : List (Str × D)) (vs : List (Str × V)), Dfs K Hf ρ l vs → Dfs K Hf' ρ' l vs
  | [], vs, h => by simpa [Dfs] using h
  | (k, d) :: l, vs, h => by
    simp only [Dfs] at h ⊢
    obtain ⟨v, r, h1, h2, h3⟩ := h
    exact ⟨v, r, h1, Dt.mono e p d v h2, Dfs.mono e p l r h3⟩
end

/-- the heap bears the frozen part and the store -/
structure HR (K : PySem.W.Frag) (H Hf : Hp) (ρ : List Addr) (S : Store) : Prop where
  sub : Ext Hf H
  len : ρ.length = S.length
  nd : ∀ (i j : Nat) (a : Addr), ρ[i]? = some a → ρ[j]? = some a → i = j
  hd : ∀ (n : Nat) (a : Addr), ρ[n]? = some a → Hf a = none
  cell : ∀ (n : Nat) (a : Addr) (c : Cell), ρ[n]? = some a → S[n]? = some c → CellOk K Hf ρ H a c

/-- what a piece of a run may change: the store's cells, and new things -/
structure Tr (H Hf : Hp) (ρ : List Addr) (H' Hf' : Hp) (ρ' : List Addr) : Prop where
  hf : Ext Hf Hf'
  pre : Pre ρ ρ'
  keep : ∀ a o, H a = some o → a ∉ ρ → H' a = some o
  fresh : ∀ a, Hf' a ≠ none → Hf a ≠ none ∨ H a = none
  newh : ∀ a ∈ ρ', a ∈ ρ ∨ H a = none
  alive : ∀ a, H a ≠ none → H' a ≠ none
theorem mem_of_get {ρ : List Addr} {n : Nat} {a : Addr} (h : ρ[n]? = some a) : a ∈ ρ := List.mem_of_getElem? h
theorem Pre.mem {ρ ρ' : List Addr} (p : Pre ρ ρ') {a : Addr} (h : a ∈ ρ) : a ∈ ρ' := by
  obtain ⟨n, e⟩ := List.mem_iff_getElem?.mp h
  exact mem_of_get (p n a e)
theorem Tr.refl (H Hf : Hp) (ρ : List Addr) : Tr H Hf ρ H Hf ρ :=
  ⟨Ext.refl _, Pre.refl _, fun _ _ h _ => h, fun _ h => .inl h, fun _ h => .inl h, fun _ h => h⟩
theorem Tr.trans {H Hf H1 Hf1 H2 Hf2 : Hp} {ρ ρ1 ρ2 : List Addr} (a : Tr H Hf ρ H1 Hf1 ρ1) (b : Tr H1 Hf1 ρ1 H2 Hf2 ρ2) : Tr H Hf ρ H2 Hf2 ρ2 where
  hf := a.hf.trans b.hf
  pre := a.pre.trans b.pre
  keep := fun x o h n => b.keep x o (a.keep x o h n) fun z => by
    rcases a.newh x z with z | z
    · exact n z
    · rw [h] at z; cases z
  fresh := fun x h => by
    rcases b.fresh x h with z | z
    · exact a.fresh x z
    · refine .inr ?_
      cases e : H x with
      | none => rfl
      | some o => exact absurd z (a.alive x (by rw [e]; simp))
  newh := fun x h => by
    rcases b.newh x h with z | z
    · exact a.newh x z
    · refine .inr ?_
      cases e : H x with
      | none => rfl
      | some o => exact absurd z (a.alive x (by rw [e]; simp))
  alive := fun x h => b.alive x (a.alive x h)
/-- a new thing, frozen at once -/
theorem Tr.new {H Hf : Hp} {ρ : List Addr} {p : Addr} {o : HO} (hp : H p = none) (hs : Ext Hf H) : Tr H Hf ρ (upd H p o) (upd Hf p o) ρ where
  hf := fun a u h => by
    have : a ≠ p := fun z => by subst z; rw [hs _ _ h] at hp; cases hp
    rw [upd_ne this]; exact h
  pre := Pre.refl _
  keep := fun a u h _ => by rw [upd_ne (ne_of_none h hp)]; exact h
  fresh := fun a h => by
    by_cases z : a = p
    · subst z; exact .inr hp
    · rw [upd_ne z] at h; exact .inl h
  newh := fun a h => .inl h
  alive := fun a h => by
    by_cases z : a = p
    · subst z; rw [upd_same]; simp
    · rw [upd_ne z]; exact h
/-- a new thing, one's own -/
theorem Tr.own {H Hf : Hp} {ρ : List Addr} {p : Addr} {o : HO} (hp : H p = none) : Tr H Hf ρ (upd H p o) Hf ρ where
  hf := Ext.refl _
  pre := Pre.refl _
  keep := fun a u h _ => by rw [upd_ne (ne_of_none h hp)]; exact h
  fresh := fun a h => .inl h
  newh := fun a h => .inl h
  alive := fun a h => by
    by_cases z : a = p
    · subst z; rw [upd_same]; simp
    · rw [upd_ne z]; exact h
theorem HR.new {K : PySem.W.Frag} {H Hf : Hp} {ρ : List Addr} {S : Store} {p : Addr} {o : HO} (h : HR K H Hf ρ S) (hp : H p = none) (hr : p ∉ ρ) : HR K (upd H p o) (upd Hf p o) ρ S := by
  have t := Tr.new (ρ := ρ) (o := o) hp h.sub
  refine ⟨fun a u e => ?_, h.len, h.nd, fun n a e => ?_, fun n a c e1 e2 => ?_⟩
  · by_cases z : a = p
    · subst z; rw [upd_same] at e ⊢; exact e
    · rw [upd_ne z] at e ⊢; exact h.sub a u e
  · have : a ≠ p := fun z => hr (z ▸ mem_of_get e)
    rw [upd_ne this]; exact h.hd n a e
  · have q := h.cell n a c e1 e2
    have : a ≠ p := fun z => hr (z ▸ mem_of_get e1)
    cases c with
    | lst l =>
      obtain ⟨vs, x, y⟩ := q
      exact ⟨vs, by rw [upd_ne this]; exact x, y.mono t.hf (Pre.refl _)⟩
    | ins C fs =>
      obtain ⟨dx, gs, x, y⟩ := q
      exact ⟨dx, gs, by rw [upd_ne this]; exact x, Dfs.mono t.hf (Pre.refl _) _ _ y⟩
theorem HR.own {K : PySem.W.Frag} {H Hf : Hp} {ρ : List Addr} {S : Store} {p : Addr} {o : HO} (h : HR K H Hf ρ S) (hf : Hf p = none) (hr : p ∉ ρ) : HR K (upd H p o) Hf ρ S := by
  refine ⟨fun a u e => ?_, h.len, h.nd, h.hd, fun n a c e1 e2 => ?_⟩
  · by_cases z : a = p
    · subst z; rw [hf] at e; cases e
    · rw [upd_ne z]; exact h.sub a u e
  · have q := h.cell n a c e1 e2
    have : a ≠ p := fun z => hr (z ▸ mem_of_get e1)
    cases c with
    | lst l =>
      obtain ⟨vs, x, y⟩ := q
      exact ⟨vs, by rw [upd_ne this]; exact x, y⟩
    | ins C fs =>
      obtain ⟨dx, gs, x, y⟩ := q
      exact ⟨dx, gs, by rw [upd_ne this]; exact x, y⟩
/-- what is one's own is frozen -/
theorem HR.freeze {K : PySem.W.Frag} {H Hf : Hp} {ρ : List Addr} {S : Store} {p : Addr} {o : HO} (h : HR K H Hf ρ S) (hf : Hf p = none) (hp : H p = some o) (hr : p ∉ ρ) : HR K H (upd Hf p o) ρ S := by
  have ex : Ext Hf (upd Hf p o) := fun a u e => by
    have : a ≠ p := fun z => by subst z; rw [hf] at e; cases e
    rw [upd_ne this]; exact e
  refine ⟨fun a u e => ?_, h.len, h.nd, fun n a e => ?_, fun n a c e1 e2 => ?_⟩
  · by_cases z : a = p
    · subst z; rw [upd_same] at e; cases e; exact hp
    · rw [upd_ne z] at e; exact h.sub a u e
  · have : a ≠ p := fun z => hr (z ▸ mem_of_get e)
    rw [upd_ne this]; exact h.hd n a e
  · have q := h.cell n a c e1 e2
    cases c with
    | lst l =>
      obtain ⟨vs, x, y⟩ := q
      exact ⟨vs, x, y.mono ex (Pre.refl _)⟩
    | ins C fs =>
      obtain ⟨dx, gs, x, y⟩ := q
      exact ⟨dx, gs, x, Dfs.mono ex (Pre.refl _) _ _ y⟩
theorem HR.there {K : PySem.W.Frag} {H Hf : Hp} {ρ : List Addr} {S : Store} (h : HR K H Hf ρ S) {a : Addr} (ha : a ∈ ρ) : H a ≠ none := by
  obtain ⟨n, e⟩ := List.mem_iff_getElem?.mp ha
  have hn : n < S.length := by rw [← h.len]; exact (List.getElem?_eq_some_iff.mp e).1
  have q := h.cell n a S[n] e (List.getElem?_eq_getElem hn)
  cases hc : S[n] with
  | lst l => rw [hc] at q; obtain ⟨vs, x, _⟩ := q; rw [x]; simp
  | ins C fs => rw [hc] at q; obtain ⟨dx, gs, x, _⟩ := q; rw [x]; simp
theorem HR.notin {K : PySem.W.Frag} {H Hf : Hp} {ρ : List Addr} {S : Store} (h : HR K H Hf ρ S) {a : Addr} (ha : H a = none) : a ∉ ρ := fun z => h.there z ha
theorem HR.hnone {K : PySem.W.Frag} {H Hf : Hp} {ρ : List Addr} {S : Store} (h : HR K H Hf ρ S) {a : Addr} (ha : H a = none) : Hf a = none := by
  cases e : Hf a with
  | none => rfl
  | some o => rw [h.sub _ _ e] at ha; cases ha

/-! ### results -/
/-- an error: the class, and what its one attribute holds -/
structure Exc where
  cls : Str
  att : Option (Str × D)
inductive Res (α : Type) where
  | ok (a : α) (S : Store)
  | exc (x : Exc) (S : Store)
  | stk
def Res.bind {α β : Type} (r : Res α) (k : α → Store → Res β) : Res β := match r with
  | .ok a S => k a S
  | .exc x S => .exc x S
  | .stk => .stk

/-- a name's value: shared, or one's own -/
inductive Sl where
  | fz (d : D)
  | own (d : D)
abbrev Env := List (Option Sl)
inductive SRes where
  | nx (E : Env) (S : Store)
  | rt (d : D) (S : Store)
  | bk (E : Env) (S : Store)
  | ct (E : Env) (S : Store)
  | ex (x : Exc) (E : Env) (S : Store)
  | stk
abbrev FE := Nat → Env → Store → Res D
abbrev FT := Nat → Env → Store → Res Bool
abbrev FA := Nat → Env → Store → Res (List D)
abbrev FS := Nat → Env → Store → SRes
/-- what a def makes of its arguments -/
abbrev MF := List D → Store → Res D

section
variable (K : PySem.W.Frag)
/-- how an error lies in the heap -/
def ExcAt (Hf : Hp) (ρ : List Addr) (H : Hp) (x : Exc) (c : Value) (d : Option Addr) : Prop :=
  c = .ref (He.ga K x.cls) ∧ match x.att with
    | none => True
    | some (n, v) => ∃ (a : Addr) (u : V), d = some a ∧ Hf a = some (.xd [(n, u)]) ∧ Dt K Hf ρ v u
/-- one's own thing at a -/
def OwnAt (H Hf : Hp) (ρ : List Addr) (a : Addr) : D → Prop
  | .lst l => ∃ vs, H a = some (.lst vs) ∧ Dts K Hf ρ l vs
  | .dct l => ∃ vs, H a = some (.dK vs) ∧ Dks K Hf ρ l vs
  | _ => False
def SlOk (H0 : Hp) (H Hf : Hp) (ρ : List Addr) (v : Option (Option V)) : Sl → Prop
  | .fz d => ∃ u, v = some (some u) ∧ Dt K Hf ρ d u
  | .own d => ∃ a, v = some (some (.ref a)) ∧ H0 a = none ∧ Hf a = none ∧ a ∉ ρ ∧ OwnAt K H Hf ρ a d
end
/-- the ground of a def's run: its context, the heap at its entry, what is wanted of an error -/
structure Gr where
  H0 : Hp
  Hf0 : Hp
  ρ0 : List Addr
structure Rel (K : PySem.W.Frag) (B : Gr) (E : Env) (S : Store) (σ : L2.St) (H Hf : Hp) (ρ : List Addr) : Prop where
  hr : HR K H Hf ρ S
  tr : Tr B.H0 B.Hf0 B.ρ0 H Hf ρ
  len : E.length = σ.length
  sl : ∀ (i : Nat) (s : Sl), E[i]? = some (some s) → SlOk K B.H0 H Hf ρ σ[i]? s
  dis : ∀ (i j : Nat) (a : Addr) (d e : D), E[i]? = some (some (.own d)) → E[j]? = some (some (.own e)) → σ[i]? = some (some (.ref a)) → σ[j]? = some (some (.ref a)) → i = j
theorem OwnAt.mono {K : PySem.W.Frag} {H Hf H' Hf' : Hp} {ρ ρ' : List Addr} {a : Addr} {d : D} (x : OwnAt K H Hf ρ a d) (hn : a ∉ ρ) (t : Tr H Hf ρ H' Hf' ρ') : OwnAt K H' Hf' ρ' a d := by
  cases d with
  | lst l =>
    obtain ⟨vs, h1, h2⟩ := x
    exact ⟨vs, t.keep _ _ h1 hn, Dts.mono t.hf t.pre _ _ h2⟩
  | dct l =>
    obtain ⟨vs, h1, h2⟩ := x
    exact ⟨vs, t.keep _ _ h1 hn, Dks.mono t.hf t.pre _ _ h2⟩
  | _ => exact x.elim
theorem OwnAt.there {K : PySem.W.Frag} {H Hf : Hp} {ρ : List Addr} {a : Addr} {d : D} (x : OwnAt K H Hf ρ a d) : ∃ o, H a = some o := by
  cases d with
  | lst l => obtain ⟨vs, h1, h2⟩ := x; exact ⟨_, h1⟩
  | dct l => obtain ⟨vs, h1, h2⟩ := x; exact ⟨_, h1⟩
  | _ => exact x.elim
theorem SlOk.step {K : PySem.W.Frag} {H0 H Hf H' Hf' : Hp} {ρ ρ' : List Addr} {v : Option (Option V)} {s : Sl} (x : SlOk K H0 H Hf ρ v s) (t : Tr H Hf ρ H' Hf' ρ') : SlOk K H0 H' Hf' ρ' v s := by
  cases s with
  | fz d =>
    obtain ⟨u, h1, h2⟩ := x
    exact ⟨u, h1, h2.mono t.hf t.pre⟩
  | own d =>
    obtain ⟨a, h1, h2, h3, h4, h5⟩ := x
    obtain ⟨o, ho⟩ := h5.there
    refine ⟨a, h1, h2, ?_, fun z => ?_, h5.mono h4 t⟩
    · cases e : Hf' a with
      | none => rfl
      | some u =>
        rcases t.fresh a (by rw [e]; simp) with z | z
        · exact absurd h3 z
        · rw [ho] at z; cases z
    · rcases t.newh a z with z | z
      · exact h4 z
      · rw [ho] at z; cases z
theorem Rel.step {K : PySem.W.Frag} {B : Gr} {E : Env} {S S' : Store} {σ : L2.St} {H Hf H' Hf' : Hp} {ρ ρ' : List Addr} (x : Rel K B E S σ H Hf ρ) (h : HR K H' Hf' ρ' S') (t : Tr H Hf ρ H' Hf' ρ') : Rel K B E S' σ H' Hf' ρ' :=
  ⟨h, x.tr.trans t, x.len, fun i s e => (x.sl i s e).step t, x.dis⟩
end DL

end

section
set_option autoImplicit false
set_option autoImplicit false
namespace DL
open PySem PySem.Spec PyProof.Rows L2

/-! ### what is wanted behind -/
section
variable (K : PySem.W.Frag) (W : WX)
def PostX (σ : L2.St) (H Hf : Hp) (ρ : List Addr) (x : Exc) (S' : Store) : Prop :=
  ∀ c od H' Hf' ρ', HR K H' Hf' ρ' S' → Tr H Hf ρ H' Hf' ρ' → ExcAt K Hf' ρ' H' x c od → W c od σ H'
/-- a value, shared -/
def PostE (σ : L2.St) (H Hf : Hp) (ρ : List Addr) (Q : VK) : Res D → Prop
  | .ok d S' => ∀ v H' Hf' ρ', HR K H' Hf' ρ' S' → Tr H Hf ρ H' Hf' ρ' → Dt K Hf' ρ' d v → Q v H'
  | .exc x S' => PostX K W σ H Hf ρ x S'
  | .stk => False
/-- a value that is read at once: it may be one's own -/
def Dw (H Hf : Hp) (ρ : List Addr) : D → V → Prop
  | .lst l, v => ∃ a vs, v = .ref a ∧ a ∉ ρ ∧ H a = some (.lst vs) ∧ Dts K Hf ρ l vs
  | .dct l, v => ∃ a vs, v = .ref a ∧ a ∉ ρ ∧ Rd H a (.dK vs) ∧ Dks K Hf ρ l vs
  | d, v => Dt K Hf ρ d v
def Dws (H Hf : Hp) (ρ : List Addr) : List D → List V → Prop
  | [], vs => vs = []
  | d :: l, vs => ∃ v r, vs = v :: r ∧ Dw K H Hf ρ d v ∧ Dws H Hf ρ l r
def PostR (σ : L2.St) (H Hf : Hp) (ρ : List Addr) (Q : VK) : Res D → Prop
  | .ok d S' => ∀ v H' Hf' ρ', HR K H' Hf' ρ' S' → Tr H Hf ρ H' Hf' ρ' → Dw K H' Hf' ρ' d v → Q v H'
  | .exc x S' => PostX K W σ H Hf ρ x S'
  | .stk => False
/-- a new list or dict, one's own -/
def PostF (σ : L2.St) (H Hf : Hp) (ρ : List Addr) (Q : VK) : Res D → Prop
  | .ok d S' => ∀ p H' Hf' ρ', HR K H' Hf' ρ' S' → Tr H Hf ρ H' Hf' ρ' → H p = none → Hf' p = none → p ∉ ρ' → OwnAt K H' Hf' ρ' p d → Q (.ref p) H'
  | .exc x S' => PostX K W σ H Hf ρ x S'
  | .stk => False
def PostA (σ : L2.St) (H Hf : Hp) (ρ : List Addr) (Q : List V → Hp → Prop) : Res (List D) → Prop
  | .ok d S' => ∀ v H' Hf' ρ', HR K H' Hf' ρ' S' → Tr H Hf ρ H' Hf' ρ' → Dts K Hf' ρ' d v → Q v H'
  | .exc x S' => PostX K W σ H Hf ρ x S'
  | .stk => False
def PostAr (σ : L2.St) (H Hf : Hp) (ρ : List Addr) (Q : List V → Hp → Prop) : Res (List D) → Prop
  | .ok d S' => ∀ v H' Hf' ρ', HR K H' Hf' ρ' S' → Tr H Hf ρ H' Hf' ρ' → Dws K H' Hf' ρ' d v → Q v H'
  | .exc x S' => PostX K W σ H Hf ρ x S'
  | .stk => False
def PostT (σ : L2.St) (H Hf : Hp) (ρ : List Addr) (Q : Bool → Hp → Prop) : Res Bool → Prop
  | .ok b S' => ∀ H' Hf' ρ', HR K H' Hf' ρ' S' → Tr H Hf ρ H' Hf' ρ' → Q b H'
  | .exc x S' => PostX K W σ H Hf ρ x S'
  | .stk => False
def PostS (B : Gr) (Hf : Hp) (ρ : List Addr) (Q : Ends) : SRes → Prop
  | .nx E' S' => ∀ σ' H' Hf' ρ', Rel K B E' S' σ' H' Hf' ρ' → Ext Hf Hf' → Pre ρ ρ' → Q.nx σ' H'
  | .bk E' S' => ∀ σ' H' Hf' ρ', Rel K B E' S' σ' H' Hf' ρ' → Ext Hf Hf' → Pre ρ ρ' → Q.bk σ' H'
  | .ct E' S' => ∀ σ' H' Hf' ρ', Rel K B E' S' σ' H' Hf' ρ' → Ext Hf Hf' → Pre ρ ρ' → Q.ct σ' H'
  | .rt d S' => ∀ v H' Hf' ρ', HR K H' Hf' ρ' S' → Tr B.H0 B.Hf0 B.ρ0 H' Hf' ρ' → Dt K Hf' ρ' d v → Q.rt v H'
  | .ex x E' S' => ∀ c od σ' H' Hf' ρ', Rel K B E' S' σ' H' Hf' ρ' → Ext Hf Hf' → Pre ρ ρ' → ExcAt K Hf' ρ' H' x c od → W c od σ' H'
  | .stk => False
end
section
variable (X : Cx) (B : Gr) (W : WX)
def QE (e : Expr) (f : FE) : Prop := ∃ t, PE X e t ∧ ∀ n E S σ H Hf ρ Q, Rel X.K B E S σ H Hf ρ → PostE X.K W σ H Hf ρ Q (f n E S) → t σ H Q
def QR (e : Expr) (f : FE) : Prop := ∃ t, PE X e t ∧ ∀ n E S σ H Hf ρ Q, Rel X.K B E S σ H Hf ρ → PostR X.K W σ H Hf ρ Q (f n E S) → t σ H Q
def QF (e : Expr) (f : FE) : Prop := ∃ t, PE X e t ∧ ∀ n E S σ H Hf ρ Q, Rel X.K B E S σ H Hf ρ → PostF X.K W σ H Hf ρ Q (f n E S) → t σ H Q
def QA (es : List Expr) (f : FA) : Prop := ∃ t, PA X es t ∧ ∀ n E S σ H Hf ρ Q, Rel X.K B E S σ H Hf ρ → PostA X.K W σ H Hf ρ Q (f n E S) → t σ H Q
def QAr (es : List Expr) (f : FA) : Prop := ∃ t, PA X es t ∧ ∀ n E S σ H Hf ρ Q, Rel X.K B E S σ H Hf ρ → PostAr X.K W σ H Hf ρ Q (f n E S) → t σ H Q
def QT (e : Expr) (f : FT) : Prop := ∃ t, PT X e t ∧ ∀ n E S σ H Hf ρ Q, Rel X.K B E S σ H Hf ρ → PostT X.K W σ H Hf ρ Q (f n E S) → t σ H Q
def QW (e : Expr) (f : FT) : Prop := ∃ t, PW X e t ∧ ∀ n E S σ H Hf ρ Q, Rel X.K B E S σ H Hf ρ → PostT X.K W σ H Hf ρ Q (f n E S) → t σ H Q
def QS (st : Stmt) (f : FS) : Prop := ∃ t, PS X st t ∧ ∀ n E S σ H Hf ρ Q, Rel X.K B E S σ H Hf ρ → PostS X.K W B Hf ρ Q (f n E S) → t Q σ H
def QSs (st : List Stmt) (f : FS) : Prop := ∃ t, PSs X st t ∧ ∀ n E S σ H Hf ρ Q, Rel X.K B E S σ H Hf ρ → PostS X.K W B Hf ρ Q (f n E S) → t Q σ H
end

theorem PostS.mono {K : PySem.W.Frag} {W : WX} {B : Gr} {Hf Hf1 : Hp} {ρ ρ1 : List Addr} {Q : Ends} {r : SRes} (ex : Ext Hf Hf1) (pr : Pre ρ ρ1) (p : PostS K W B Hf ρ Q r) : PostS K W B Hf1 ρ1 Q r := by
  cases r with
  | nx E S => exact fun σ' H' Hf' ρ' r a b => p σ' H' Hf' ρ' r (ex.trans a) (pr.trans b)
  | bk E S => exact fun σ' H' Hf' ρ' r a b => p σ' H' Hf' ρ' r (ex.trans a) (pr.trans b)
  | ct E S => exact fun σ' H' Hf' ρ' r a b => p σ' H' Hf' ρ' r (ex.trans a) (pr.trans b)
  | rt d S => exact p
  | ex x E S => exact fun c od σ' H' Hf' ρ' r a b => p c od σ' H' Hf' ρ' r (ex.trans a) (pr.trans b)
  | stk => exact p

/-! ### small lemmas -/
section
variable {K : PySem.W.Frag} {W : WX} {B : Gr} {E : Env} {S S' : Store} {σ : L2.St} {H Hf H' Hf' : Hp} {ρ ρ' : List Addr} {Q : VK}
theorem Dt.dw (h : HR K H Hf ρ S) {d : D} {v : V} (x : Dt K Hf ρ d v) : Dw K H Hf ρ d v := by
  cases d with
  | lst l =>
    simp only [Dt] at x
    obtain ⟨a, vs, h1, h2, h3⟩ := x
    refine ⟨a, vs, h1, fun z => ?_, h.sub _ _ h2, h3⟩
    obtain ⟨n, e⟩ := List.mem_iff_getElem?.mp z
    rw [h.hd n a e] at h2; cases h2
  | dct l =>
    simp only [Dt] at x
    obtain ⟨a, o, vs, h1, h2, h3⟩ := x
    refine ⟨a, vs, h1, fun z => ?_, .inr ⟨o, h.sub _ _ h2⟩, h3⟩
    obtain ⟨n, e⟩ := List.mem_iff_getElem?.mp z
    rw [h.hd n a e] at h2; cases h2
  | _ => exact x
theorem Dw.mono (t : Tr H Hf ρ H' Hf' ρ') {d : D} {v : V} (hn : HR K H Hf ρ S) (x : Dw K H Hf ρ d v) : Dw K H' Hf' ρ' d v := by
  have nr : ∀ a o, a ∉ ρ → H a = some o → a ∉ ρ' := fun a o h1 h2 z => by
    rcases t.newh a z with z | z
    · exact h1 z
    · rw [h2] at z; cases z
  cases d with
  | lst l =>
    obtain ⟨a, vs, h1, h2, h3, h4⟩ := x
    exact ⟨a, vs, h1, nr a _ h2 h3, t.keep _ _ h3 h2, Dts.mono t.hf t.pre _ _ h4⟩
  | dct l =>
    obtain ⟨a, vs, h1, h2, h3, h4⟩ := x
    rcases h3 with h3 | ⟨o, h3⟩
    · exact ⟨a, vs, h1, nr a _ h2 h3, .inl (t.keep _ _ h3 h2), Dks.mono t.hf t.pre _ _ h4⟩
    · exact ⟨a, vs, h1, nr a _ h2 h3, .inr ⟨o, t.keep _ _ h3 h2⟩, Dks.mono t.hf t.pre _ _ h4⟩
  | non => exact Dt.mono (K := K) t.hf t.pre _ _ x
  | bl b => exact Dt.mono (K := K) t.hf t.pre _ _ x
  | int i => exact Dt.mono (K := K) t.hf t.pre _ _ x
  | str s => exact Dt.mono (K := K) t.hf t.pre _ _ x
  | tup l => exact Dt.mono (K := K) t.hf t.pre _ _ x
  | ref a => exact Dt.mono (K := K) t.hf t.pre _ _ x
  | hd n => exact Dt.mono (K := K) t.hf t.pre _ _ x
  | scr l => exact Dt.mono (K := K) t.hf t.pre _ _ x
  | ty l => exact Dt.mono (K := K) t.hf t.pre _ _ x
theorem PostX.tr (t : Tr H Hf ρ H' Hf' ρ') {x : Exc} {S1 : Store} (h : PostX K W σ H Hf ρ x S1) : PostX K W σ H' Hf' ρ' x S1 :=
  fun c od H2 Hf2 ρ2 a b e => h c od H2 Hf2 ρ2 a (t.trans b) e
/-- what is one's own is shared from now on -/
theorem own_share {p : Addr} {l : List D} (h : HR K H' Hf' ρ' S') (t : Tr H Hf ρ H' Hf' ρ') (h1 : H p = none) (h2 : Hf' p = none) (h3 : p ∉ ρ') (o : OwnAt K H' Hf' ρ' p (.lst l)) :
    ∃ Hf2, HR K H' Hf2 ρ' S' ∧ Tr H Hf ρ H' Hf2 ρ' ∧ Dt K Hf2 ρ' (.lst l) (.ref p) := by
  obtain ⟨u, hu⟩ := o.there
  have hr := h.freeze h2 hu h3
  have ex : Ext Hf' (upd Hf' p u) := fun a z e => by
    have : a ≠ p := fun q => by subst q; rw [h2] at e; cases e
    rw [upd_ne this]; exact e
  refine ⟨upd Hf' p u, hr, ⟨t.hf.trans ex, t.pre, t.keep, fun a z => ?_, t.newh, t.alive⟩, ?_⟩
  · by_cases e : a = p
    · subst e; exact .inr h1
    · rw [upd_ne e] at z; exact t.fresh a z
  · obtain ⟨vs, h5, h6⟩ := o
    rw [h5] at hu; cases hu
    exact ⟨p, vs, rfl, upd_same, Dts.mono ex (Pre.refl _) _ _ h6⟩
/-- a dict that is one's own is locked and shared from now on -/
theorem own_lock {p : Addr} {l : List (Key × D)} (h : HR K H' Hf' ρ' S') (t : Tr H Hf ρ H' Hf' ρ') (h1 : H p = none) (h2 : Hf' p = none) (h3 : p ∉ ρ') (o : OwnAt K H' Hf' ρ' p (.dct l)) :
    ∃ u, H' p = some u ∧ Mut (some u) ∧ ∀ od, ∃ Hf2, HR K (upd H' p (.frz od u)) Hf2 ρ' S' ∧ Tr H Hf ρ (upd H' p (.frz od u)) Hf2 ρ' ∧ Dt K Hf2 ρ' (.dct l) (.ref p) := by
  obtain ⟨vs, h5, h6⟩ := o
  refine ⟨_, h5, True.intro, fun od => ?_⟩
  have hr := (h.own (o := .frz od (.dK vs)) h2 h3).freeze h2 upd_same h3
  have ex : Ext Hf' (upd Hf' p (.frz od (.dK vs))) := fun a z e => by
    have : a ≠ p := fun q => by subst q; rw [h2] at e; cases e
    rw [upd_ne this]; exact e
  refine ⟨_, hr, ⟨t.hf.trans ex, t.pre, fun a z e1 e2 => ?_, fun a z => ?_, t.newh, fun a z => ?_⟩, ⟨p, od, vs, rfl, upd_same, Dks.mono ex (Pre.refl _) _ _ h6⟩⟩
  · have : a ≠ p := fun q => by subst q; rw [h1] at e1; cases e1
    rw [upd_ne this]; exact t.keep _ _ e1 e2
  · by_cases e : a = p
    · subst e; exact .inr h1
    · rw [upd_ne e] at z; exact t.fresh a z
  · by_cases e : a = p
    · subst e; rw [upd_same]; simp
    · rw [upd_ne e]; exact t.alive a z
def lockQ (Q : VK) : VK := fun v H1 => Q v H1 ∨ ∃ d u, v = .ref d ∧ H1 d = some u ∧ Mut (some u) ∧ ∀ od, Q v (upd H1 d (.frz od u))
theorem PostE.ofF {r : Res D} (h : PostE K W σ H Hf ρ Q r) : PostF K W σ H Hf ρ (lockQ Q) r := by
  cases r with
  | ok d S1 =>
    intro p H1 Hf1 ρ1 a b c e f o
    cases d with
    | lst l =>
      obtain ⟨Hf2, a2, b2, d2⟩ := own_share a b c e f o
      exact .inl (h _ _ _ _ a2 b2 d2)
    | dct l =>
      obtain ⟨u, e1, e2, e3⟩ := own_lock a b c e f o
      refine .inr ⟨p, u, rfl, e1, e2, fun od => ?_⟩
      obtain ⟨Hf2, a2, b2, d2⟩ := e3 od
      exact h _ _ _ _ a2 b2 d2
    | _ => exact o.elim
  | exc x S1 => exact h
  | stk => exact h
theorem PostE.ofFn {r : Res D} (hn : ∀ d S1, r = .ok d S1 → ∀ l, d ≠ .dct l) (h : PostE K W σ H Hf ρ Q r) : PostF K W σ H Hf ρ Q r := by
  cases r with
  | ok d S1 =>
    intro p H1 Hf1 ρ1 a b c e f o
    cases d with
    | lst l =>
      obtain ⟨Hf2, a2, b2, d2⟩ := own_share a b c e f o
      exact h _ _ _ _ a2 b2 d2
    | dct l => exact absurd rfl (hn _ _ rfl l)
    | _ => exact o.elim
  | exc x S1 => exact h
  | stk => exact h
theorem PostR.ofE {r : Res D} (h : PostR K W σ H Hf ρ Q r) : PostE K W σ H Hf ρ Q r := by
  cases r with
  | ok d S1 => exact fun v H1 Hf1 ρ1 a b c => h v H1 Hf1 ρ1 a b (c.dw a)
  | exc x S1 => exact h
  | stk => exact h
end
section
variable {X : Cx} {B : Gr} {W : WX} {e : Expr} {f : FE}
theorem pe_lockP {e : Expr} {t : TE} (h : PE X e t) : PE X e (fun σ H Q => t σ H (lockQ Q)) := by
  refine ⟨fun pins s σ H Q I hw => ?_⟩
  refine thn (h.run pins s σ H _ I hw) fun v s1 ⟨x, H1, I1, r, q⟩ => ?_
  rcases q with q | ⟨d, u, e, hd, mu, q⟩
  · exact ⟨x, H1, I1, r, q⟩
  · obtain ⟨od, I2⟩ := I1.lock hd mu
    exact ⟨x, _, I2, r, q od⟩
theorem QF.qe (h : QF X B W e f) : QE X B W e f := by
  obtain ⟨t, h1, h2⟩ := h
  exact ⟨_, pe_lockP h1, fun n E S σ H Hf ρ Q r p => h2 n E S σ H Hf ρ _ r p.ofF⟩
theorem QE.qr (h : QE X B W e f) : QR X B W e f := by
  obtain ⟨t, h1, h2⟩ := h
  exact ⟨t, h1, fun n E S σ H Hf ρ Q r p => h2 n E S σ H Hf ρ Q r p.ofE⟩
end
end DL

end

section
set_option autoImplicit false
set_option autoImplicit false
namespace DL
open PySem PySem.Spec PyProof.Rows L2

/-! ### names and constants -/
/-- the name x stands in slot i -/
structure Vr (X : Cx) (i : Nat) (x : Str) : Prop where
  ix : X.N[i]? = some x
  vis : Vis X.env.scope x
  db : (x == ("__debug__" : Str)) = false
  cd : (x == ("__classdict__" : Str)) = false
/-- .. and may be stored -/
structure Lr (X : Cx) (i : Nat) (x : Str) : Prop where
  nd : X.N.Nodup
  ix : X.N[i]? = some x
  loc : Loc X.env.scope x
  fn : X.fn x = true ∨ X.env.scope.names.lookup x = some .local

def fC (d : D) : FE := fun _ _ S => .ok d S
def fVar (i : Nat) : FE := fun _ E S => match E[i]? with
  | some (some (.fz d)) => .ok d S
  | _ => .stk
def fRd (i : Nat) : FE := fun _ E S => match E[i]? with
  | some (some (.fz d)) => .ok d S
  | some (some (.own d)) => .ok d S
  | _ => .stk
section
variable {X : Cx} {B : Gr} {W : WX} {pos : Pos} {x : Str} {i : Nat}
theorem q_int {z : Int} {j : Nat} : QE X B W (.Constant (.int z) j pos) (fC (.int z)) :=
  ⟨_, pe_int, fun n E S σ H Hf ρ Q r p => p _ _ _ _ r.hr (Tr.refl _ _ _) rfl⟩
theorem q_bl {z : Bool} {j : Nat} : QE X B W (.Constant (.bool z) j pos) (fC (.bl z)) :=
  ⟨_, pe_bl, fun n E S σ H Hf ρ Q r p => p _ _ _ _ r.hr (Tr.refl _ _ _) rfl⟩
theorem q_non {j : Nat} : QE X B W (.Constant .none j pos) (fC .non) :=
  ⟨_, pe_non, fun n E S σ H Hf ρ Q r p => p _ _ _ _ r.hr (Tr.refl _ _ _) rfl⟩
theorem q_str {z : Str} {j : Nat} : QE X B W (.Constant (.str z) j pos) (fC (.str z)) :=
  ⟨_, pe_str, fun n E S σ H Hf ρ Q r p => p _ _ _ _ r.hr (Tr.refl _ _ _) rfl⟩
theorem q_var (v : Vr X i x) : QE X B W (.Name x pos) (fVar i) := by
  refine ⟨_, pe_var v.ix v.vis v.db v.cd, fun n E S σ H Hf ρ Q r p => ?_⟩
  unfold fVar at p
  cases e : E[i]? with
  | none => rw [e] at p; exact p.elim
  | some o =>
    cases o with
    | none => rw [e] at p; exact p.elim
    | some s =>
      cases s with
      | own d => rw [e] at p; exact p.elim
      | fz d =>
        rw [e] at p
        obtain ⟨u, h1, h2⟩ := r.sl i _ e
        exact ⟨u, h1, p _ _ _ _ r.hr (Tr.refl _ _ _) h2⟩
theorem q_rd (v : Vr X i x) : QR X B W (.Name x pos) (fRd i) := by
  refine ⟨_, pe_var v.ix v.vis v.db v.cd, fun n E S σ H Hf ρ Q r p => ?_⟩
  unfold fRd at p
  cases e : E[i]? with
  | none => rw [e] at p; exact p.elim
  | some o =>
    cases o with
    | none => rw [e] at p; exact p.elim
    | some s =>
      cases s with
      | own d =>
        rw [e] at p
        obtain ⟨a, h1, _, _, h4, h5⟩ := r.sl i _ e
        refine ⟨.ref a, h1, p _ _ _ _ r.hr (Tr.refl _ _ _) ?_⟩
        cases d with
        | lst l => obtain ⟨vs, k1, k2⟩ := h5; exact ⟨a, vs, rfl, h4, k1, k2⟩
        | dct l => obtain ⟨vs, k1, k2⟩ := h5; exact ⟨a, vs, rfl, h4, .inl k1, k2⟩
        | _ => exact h5.elim
      | fz d =>
        rw [e] at p
        obtain ⟨u, h1, h2⟩ := r.sl i _ e
        exact ⟨u, h1, p _ _ _ _ r.hr (Tr.refl _ _ _) (h2.dw r.hr)⟩
/-- a module's int -/
theorem q_gint {z : Int} (hg : Gl X x) (hm : ∃ t, X.mg x = some (.int z t)) (hd : (x == ("__debug__" : Str)) = false) : QE X B W (.Name x pos) (fC (.int z)) := by
  obtain ⟨t, hm⟩ := hm
  exact ⟨_, pe_glob (v := .int z) hg hm ⟨t, rfl⟩ hd, fun n E S σ H Hf ρ Q r p => p _ _ _ _ r.hr (Tr.refl _ _ _) rfl⟩
theorem q_gstr {z : Str} (hg : Gl X x) (hm : ∃ t, X.mg x = some (.str z t)) (hd : (x == ("__debug__" : Str)) = false) : QE X B W (.Name x pos) (fC (.str z)) := by
  obtain ⟨t, hm⟩ := hm
  exact ⟨_, pe_glob (v := .str z) hg hm ⟨t, rfl⟩ hd, fun n E S σ H Hf ρ Q r p => p _ _ _ _ r.hr (Tr.refl _ _ _) rfl⟩
/-- a def, a class, as a value -/
theorem q_gref (hg : Gl X x) (hm : X.mg x = some (.ref (He.ga X.K x))) (hd : (x == ("__debug__" : Str)) = false) : QE X B W (.Name x pos) (fC (.ref x)) :=
  ⟨_, pe_glob (v := .ref (He.ga X.K x)) hg hm rfl hd, fun n E S σ H Hf ρ Q r p => p _ _ _ _ r.hr (Tr.refl _ _ _) rfl⟩
end

/-! ### two-place operators -/
/-- f makes of two things what g tells -/
def OpQ (X : Cx) (F : Value → Value → Sem Value) (g : D → D → Option D) : Prop := ∃ r, OpR X F r ∧
  ∀ a b x y H Hf ρ S Q d, HR X.K H Hf ρ S → Dw X.K H Hf ρ a x → Dw X.K H Hf ρ b y → g a b = some d →
    (∀ v H' Hf' ρ', HR X.K H' Hf' ρ' S → Tr H Hf ρ H' Hf' ρ' → Dt X.K Hf' ρ' d v → Q v H') → r x y H Q
def fOp (g : D → D → Option D) (fa fb : FE) : FE := fun n E S => (fa n E S).bind fun a S1 => (fb n E S1).bind fun b S2 => match g a b with
  | some d => .ok d S2
  | none => .stk
theorem OpQ.orI {X : Cx} {F : Value → Value → Sem Value} {g g' G : D → D → Option D} (h : OpQ X F g) (h' : OpQ X F g') (hi : ∀ a b d, G a b = some d → g a b = some d ∨ g' a b = some d) : OpQ X F G := by
  obtain ⟨r, h1, h2⟩ := h
  obtain ⟨r', k1, k2⟩ := h'
  refine ⟨_, h1.or k1, fun a b x y H Hf ρ S Q d hr wa wb e q => ?_⟩
  rcases hi a b d e with z | z
  · exact .inl (h2 a b x y H Hf ρ S Q d hr wa wb z q)
  · exact .inr (k2 a b x y H Hf ρ S Q d hr wa wb z q)
section
variable {X : Cx} {B : Gr} {W : WX} {pos : Pos} {a b c : Expr} {fa fb fc : FE}
theorem q_two {g : D → D → Option D} {ta tb : TE} {r : R2}
    (ha : ∀ n E S σ H Hf ρ Q, Rel X.K B E S σ H Hf ρ → PostR X.K W σ H Hf ρ Q (fa n E S) → ta σ H Q)
    (hb : ∀ n E S σ H Hf ρ Q, Rel X.K B E S σ H Hf ρ → PostR X.K W σ H Hf ρ Q (fb n E S) → tb σ H Q)
    (hr : ∀ a b x y H Hf ρ S Q d, HR X.K H Hf ρ S → Dw X.K H Hf ρ a x → Dw X.K H Hf ρ b y → g a b = some d →
      (∀ v H' Hf' ρ', HR X.K H' Hf' ρ' S → Tr H Hf ρ H' Hf' ρ' → Dt X.K Hf' ρ' d v → Q v H') → r x y H Q)
    (n : Nat) (E : Env) (S : Store) (σ : L2.St) (H Hf : Hp) (ρ : List Addr) (Q : VK) (R : Rel X.K B E S σ H Hf ρ) (p : PostE X.K W σ H Hf ρ Q (fOp g fa fb n E S)) : tOp r ta tb σ H Q := by
  refine ha n E S σ H Hf ρ _ R ?_
  unfold fOp at p
  cases ea : fa n E S with
  | stk => rw [ea] at p; exact p
  | exc x S1 => rw [ea] at p; exact p
  | ok d1 S1 =>
    rw [ea] at p
    intro x H1 Hf1 ρ1 hr1 t1 w1
    refine hb n E S1 σ H1 Hf1 ρ1 _ (R.step hr1 t1) ?_
    have p : PostE X.K W σ H Hf ρ Q ((fb n E S1).bind fun b S2 => match g d1 b with | some d => .ok d S2 | none => .stk) := p
    cases eb : fb n E S1 with
    | stk => rw [eb] at p; exact p
    | exc x S2 => rw [eb] at p; exact PostX.tr t1 p
    | ok d2 S2 =>
      rw [eb] at p
      intro y H2 Hf2 ρ2 hr2 t2 w2
      have p : PostE X.K W σ H Hf ρ Q (match g d1 d2 with | some d => .ok d S2 | none => .stk) := p
      cases eg : g d1 d2 with
      | none => rw [eg] at p; exact p.elim
      | some d =>
        rw [eg] at p
        refine hr d1 d2 x y H2 Hf2 ρ2 S2 Q d hr2 (w1.mono t2 hr1) w2 eg fun v H' Hf' ρ' h1 h2 h3 => ?_
        exact p v H' Hf' ρ' h1 ((t1.trans t2).trans h2) h3
theorem q_op {op : Operator} {g : D → D → Option D} (ho : OpQ X (binaryOp op) g) (ha : QR X B W a fa) (hb : QR X B W b fb) : QE X B W (.BinOp a op b pos) (fOp g fa fb) := by
  obtain ⟨r, h1, h2⟩ := ho
  obtain ⟨ta, a1, a2⟩ := ha
  obtain ⟨tb, b1, b2⟩ := hb
  exact ⟨_, pe_op h1 a1 b1, q_two a2 b2 h2⟩
theorem q_cmp {op : CmpOp} {g : D → D → Option D} (ho : OpQ X (compareOp op) g) (hm : behindInMarks op b = false) (ha : QR X B W a fa) (hb : QR X B W b fb) : QE X B W (.Compare a [op] [b] pos) (fOp g fa fb) := by
  obtain ⟨r, h1, h2⟩ := ho
  obtain ⟨ta, a1, a2⟩ := ha
  obtain ⟨tb, b1, b2⟩ := hb
  exact ⟨_, pe_cmpR h1 a1 b1 hm, q_two a2 b2 h2⟩
end

/-! ### the operators -/
section
variable {X : Cx}
/-- ints, under a condition -/
def iOp (C : Int → Int → Bool) (gd : Int → Int → D) : D → D → Option D
  | .int i, .int j => if C i j = true then some (gd i j) else none
  | _, _ => none
theorem iOp_inv {C : Int → Int → Bool} {gd : Int → Int → D} {a b d : D} (h : iOp C gd a b = some d) : ∃ i j, a = .int i ∧ b = .int j ∧ C i j = true ∧ d = gd i j := by
  unfold iOp at h
  split at h
  · split at h
    · cases h
      exact ⟨_, _, rfl, rfl, by assumption, rfl⟩
    · cases h
  · cases h
theorem opq_int {F : Value → Value → Sem Value} {C : Int → Int → Prop} {Cb : Int → Int → Bool} {g : Int → Int → V} {gd : Int → Int → D} (h : OpR X F (rI C g)) (hc : ∀ i j, Cb i j = true → C i j) (hg : ∀ i j (Hf : Hp) (ρ : List Addr), Dt X.K Hf ρ (gd i j) (g i j)) :
    OpQ X F (iOp Cb gd) := by
  refine ⟨_, h, fun a b x y H Hf ρ S Q d hr wa wb e q => ?_⟩
  obtain ⟨i, j, rfl, rfl, c, rfl⟩ := iOp_inv e
  exact ⟨i, j, wa, wb, hc i j c, q _ _ _ _ hr (Tr.refl _ _ _) (hg i j Hf ρ)⟩
theorem opq_int0 {F : Value → Value → Sem Value} {g : Int → Int → V} {gd : Int → Int → D} (h : OpR X F (rI0 g)) (hg : ∀ i j (Hf : Hp) (ρ : List Addr), Dt X.K Hf ρ (gd i j) (g i j)) :
    OpQ X F (iOp (fun _ _ => true) gd) := by
  refine ⟨_, h, fun a b x y H Hf ρ S Q d hr wa wb e q => ?_⟩
  obtain ⟨i, j, rfl, rfl, c, rfl⟩ := iOp_inv e
  exact ⟨i, j, wa, wb, q _ _ _ _ hr (Tr.refl _ _ _) (hg i j Hf ρ)⟩

end
/-! ### lists of data -/
section
variable {K : PySem.W.Frag} {Hf : Hp} {ρ : List Addr}
theorem Dts.length : ∀ {l : List D} {vs : List V}, Dts K Hf ρ l vs → l.length = vs.length
  | [], vs, h => by simp only [Dts] at h; subst h; rfl
  | d :: l, vs, h => by
    simp only [Dts] at h
    obtain ⟨v, r, rfl, _, h3⟩ := h
    simp [Dts.length h3]
theorem Dts.append : ∀ {l m : List D} {vs us : List V}, Dts K Hf ρ l vs → Dts K Hf ρ m us → Dts K Hf ρ (l ++ m) (vs ++ us)
  | [], m, vs, us, h, g => by simp only [Dts] at h; subst h; exact g
  | d :: l, m, vs, us, h, g => by
    simp only [Dts] at h
    obtain ⟨v, r, rfl, h2, h3⟩ := h
    exact ⟨v, r ++ us, rfl, h2, Dts.append h3 g⟩
theorem Dts.one {d : D} {v : V} (h : Dt K Hf ρ d v) : Dts K Hf ρ [d] [v] := ⟨v, [], rfl, h, rfl⟩
theorem Dts.get : ∀ {l : List D} {vs : List V} {i : Nat} {d : D}, Dts K Hf ρ l vs → l[i]? = some d → ∃ v, vs[i]? = some v ∧ Dt K Hf ρ d v
  | [], _, _, _, _, e => by simp at e
  | c :: l, vs, 0, d, h, e => by
    simp only [Dts] at h
    obtain ⟨v, r, rfl, h2, h3⟩ := h
    simp at e; subst e
    exact ⟨v, rfl, h2⟩
  | c :: l, vs, i + 1, d, h, e => by
    simp only [Dts] at h
    obtain ⟨v, r, rfl, h2, h3⟩ := h
    obtain ⟨u, a, b⟩ := Dts.get (i := i) h3 (by simpa using e)
    exact ⟨u, by simpa using a, b⟩
theorem Dts.get' : ∀ {l : List D} {vs : List V} {i : Nat} {v : V}, Dts K Hf ρ l vs → vs[i]? = some v → ∃ d, l[i]? = some d ∧ Dt K Hf ρ d v := by
  intro l vs i v h e
  have hi : i < l.length := by rw [h.length]; exact (List.getElem?_eq_some_iff.mp e).1
  obtain ⟨u, a, b⟩ := h.get (List.getElem?_eq_getElem hi)
  rw [e] at a; cases a
  exact ⟨_, List.getElem?_eq_getElem hi, b⟩
theorem Dts.take : ∀ {l : List D} {vs : List V} (n : Nat), Dts K Hf ρ l vs → Dts K Hf ρ (l.take n) (vs.take n)
  | _, _, 0, _ => by simp [Dts]
  | [], vs, n + 1, h => by simp only [Dts] at h; subst h; simp [Dts]
  | c :: l, vs, n + 1, h => by
    simp only [Dts] at h
    obtain ⟨v, r, rfl, h2, h3⟩ := h
    exact ⟨v, r.take n, rfl, h2, Dts.take n h3⟩
theorem Dts.drop : ∀ {l : List D} {vs : List V} (n : Nat), Dts K Hf ρ l vs → Dts K Hf ρ (l.drop n) (vs.drop n)
  | _, _, 0, h => h
  | [], vs, n + 1, h => by simp only [Dts] at h; subst h; simp [Dts]
  | c :: l, vs, n + 1, h => by
    simp only [Dts] at h
    obtain ⟨v, r, rfl, h2, h3⟩ := h
    exact Dts.drop n h3
theorem Dts.reverse : ∀ {l : List D} {vs : List V}, Dts K Hf ρ l vs → Dts K Hf ρ l.reverse vs.reverse
  | [], vs, h => by simp only [Dts] at h; subst h; simp [Dts]
  | c :: l, vs, h => by
    simp only [Dts] at h
    obtain ⟨v, r, rfl, h2, h3⟩ := h
    rw [List.reverse_cons, List.reverse_cons]
    exact (Dts.reverse h3).append (Dts.one h2)
theorem Dts.set : ∀ {l : List D} {vs : List V} {d : D} {v : V} (i : Nat), Dts K Hf ρ l vs → Dt K Hf ρ d v → Dts K Hf ρ (l.set i d) (vs.set i v)
  | [], vs, _, _, i, h, g => by simp only [Dts] at h; subst h; simp [Dts]
  | c :: l, vs, d, v, 0, h, g => by
    simp only [Dts] at h
    obtain ⟨u, r, rfl, h2, h3⟩ := h
    exact ⟨v, r, rfl, g, h3⟩
  | c :: l, vs, d, v, i + 1, h, g => by
    simp only [Dts] at h
    obtain ⟨u, r, rfl, h2, h3⟩ := h
    exact ⟨u, r.set i v, rfl, h2, Dts.set i h3 g⟩
theorem Dts.ints : ∀ {ns : List Int} {vs : List V}, Dts K Hf ρ (ns.map D.int) vs → vs = ns.map V.int
  | [], vs, h => by simp only [List.map_nil, Dts] at h; exact h
  | n :: ns, vs, h => by
    simp only [List.map_cons, Dts] at h
    obtain ⟨v, r, rfl, h2, h3⟩ := h
    have h2 : v = .int n := h2
    rw [h2, Dts.ints h3]
    rfl
theorem Dts.ofInts : ∀ (ns : List Int), Dts K Hf ρ (ns.map D.int) (ns.map V.int)
  | [] => rfl
  | n :: ns => ⟨_, _, rfl, rfl, Dts.ofInts ns⟩
theorem Dts.bls : ∀ {ns : List Bool} {vs : List V}, Dts K Hf ρ (ns.map D.bl) vs → vs = ns.map V.bl
  | [], vs, h => by simp only [List.map_nil, Dts] at h; exact h
  | n :: ns, vs, h => by
    simp only [List.map_cons, Dts] at h
    obtain ⟨v, r, rfl, h2, h3⟩ := h
    have h2 : v = .bl n := h2
    rw [h2, Dts.bls h3]
    rfl
theorem Dts.strs : ∀ {ns : List Str} {vs : List V}, Dts K Hf ρ (ns.map D.str) vs → vs = ns.map V.str
  | [], vs, h => by simp only [List.map_nil, Dts] at h; exact h
  | n :: ns, vs, h => by
    simp only [List.map_cons, Dts] at h
    obtain ⟨v, r, rfl, h2, h3⟩ := h
    have h2 : v = .str n := h2
    rw [h2, Dts.strs h3]
    rfl
theorem Dts.ofStrs : ∀ (ns : List Str), Dts K Hf ρ (ns.map D.str) (ns.map V.str)
  | [] => rfl
  | n :: ns => ⟨_, _, rfl, rfl, Dts.ofStrs ns⟩
end
/-- the ints of a list of data -/
def ints? : List D → Option (List Int)
  | [] => some []
  | .int i :: l => (ints? l).map (i :: ·)
  | _ :: _ => none
theorem ints?_eq : ∀ {l : List D} {ns : List Int}, ints? l = some ns → l = ns.map D.int
  | [], ns, h => by cases h; rfl
  | .int i :: l, ns, h => by
    simp only [ints?, Option.map_eq_some_iff] at h
    obtain ⟨m, h1, rfl⟩ := h
    rw [ints?_eq h1]; rfl
  | .non :: _, _, h | .bl _ :: _, _, h | .str _ :: _, _, h | .tup _ :: _, _, h | .lst _ :: _, _, h | .dct _ :: _, _, h | .ref _ :: _, _, h | .hd _ :: _, _, h | .scr _ :: _, _, h | .ty _ :: _, _, h => by cases h
@[simp] theorem ints?_map (ns : List Int) : ints? (ns.map D.int) = some ns := by
  induction ns with
  | nil => rfl
  | cons n ns ih => simp [ints?, ih]
def bls? : List D → Option (List Bool)
  | [] => some []
  | .bl i :: l => (bls? l).map (i :: ·)
  | _ :: _ => none
theorem bls?_eq : ∀ {l : List D} {ns : List Bool}, bls? l = some ns → l = ns.map D.bl
  | [], ns, h => by cases h; rfl
  | .bl i :: l, ns, h => by
    simp only [bls?, Option.map_eq_some_iff] at h
    obtain ⟨m, h1, rfl⟩ := h
    rw [bls?_eq h1]; rfl
  | .non :: _, _, h | .int _ :: _, _, h | .str _ :: _, _, h | .tup _ :: _, _, h | .lst _ :: _, _, h | .dct _ :: _, _, h | .ref _ :: _, _, h | .hd _ :: _, _, h | .scr _ :: _, _, h | .ty _ :: _, _, h => by cases h
@[simp] theorem bls?_map (ns : List Bool) : bls? (ns.map D.bl) = some ns := by
  induction ns with
  | nil => rfl
  | cons n ns ih => simp [bls?, ih]
def strs? : List D → Option (List Str)
  | [] => some []
  | .str i :: l => (strs? l).map (i :: ·)
  | _ :: _ => none
theorem strs?_eq : ∀ {l : List D} {ns : List Str}, strs? l = some ns → l = ns.map D.str
  | [], ns, h => by cases h; rfl
  | .str i :: l, ns, h => by
    simp only [strs?, Option.map_eq_some_iff] at h
    obtain ⟨m, h1, rfl⟩ := h
    rw [strs?_eq h1]; rfl
  | .non :: _, _, h | .int _ :: _, _, h | .bl _ :: _, _, h | .tup _ :: _, _, h | .lst _ :: _, _, h | .dct _ :: _, _, h | .ref _ :: _, _, h | .hd _ :: _, _, h | .scr _ :: _, _, h | .ty _ :: _, _, h => by cases h
@[simp] theorem strs?_map (ns : List Str) : strs? (ns.map D.str) = some ns := by
  induction ns with
  | nil => rfl
  | cons n ns ih => simp [strs?, ih]
/-- a new frozen thing as an answer -/
theorem new_ans {K : PySem.W.Frag} {H Hf : Hp} {ρ : List Addr} {S : Store} {d : D} {o : HO} {p : Addr} {Q : VK} (hr : HR K H Hf ρ S) (hp : H p = none)
    (hd : ∀ Hf', Ext Hf Hf' → Hf' p = some o → Dt K Hf' ρ d (.ref p))
    (q : ∀ v H' Hf' ρ', HR K H' Hf' ρ' S → Tr H Hf ρ H' Hf' ρ' → Dt K Hf' ρ' d v → Q v H') : Q (.ref p) (upd H p o) :=
  q _ _ _ _ (hr.new hp (hr.notin hp)) (Tr.new hp hr.sub) (hd _ (Tr.new (ρ := ρ) (o := o) hp hr.sub).hf upd_same)
end DL

end

section
set_option autoImplicit false
set_option autoImplicit false
namespace DL
open PySem PySem.Spec PyProof.Rows L2

/-! ### data as the library's -/
mutual
def D.py : D → Option PyData
  | .non => some .none
  | .bl b => some (.bool b)
  | .int i => some (.int i)
  | .str s => some (.str s)
  | .tup l => (D.pys l).map .tuple
  | .lst l => (D.pys l).map .list
  | .dct _ => none
  | .ref _ => none
  | .hd _ => none
  | .scr _ => none
  | .ty _ => none
def D.pys : List D → Option (List PyData)
  | [] => some []
  | d :: l => match D.py d, D.pys l with
    | some a, some b => some (a :: b)
    | _, _ => none
end
section
variable {K : PySem.W.Frag} {H Hf : Hp} {ρ : List Addr}
mutual
theorem Dt.dp (hs : Ext Hf H) : ∀ (d : D) (v : V) (p : PyData), Dt K Hf ρ d v → d.py = some p → Dp K H v p
  | .non, v, p, h, e => by
    have h : v = .non := h
    subst h; simp only [D.py] at e; cases e; exact .non
  | .bl b, v, p, h, e => by
    have h : v = .bl b := h
    subst h; simp only [D.py] at e; cases e; exact .bl b
  | .int b, v, p, h, e => by
    have h : v = .int b := h
    subst h; simp only [D.py] at e; cases e; exact .int b
  | .str b, v, p, h, e => by
    have h : v = .str b := h
    subst h; simp only [D.py] at e; cases e; exact .str b
  | .tup l, v, p, h, e => by
    simp only [Dt] at h
    obtain ⟨a, vs, rfl, h2, h3⟩ := h
    simp only [D.py, Option.map_eq_some_iff] at e
    obtain ⟨ps, e1, rfl⟩ := e
    exact .tup (hs.sqT h2) (Dts.dp hs l vs ps h3 e1)
  | .lst l, v, p, h, e => by
    simp only [Dt] at h
    obtain ⟨a, vs, rfl, h2, h3⟩ := h
    simp only [D.py, Option.map_eq_some_iff] at e
    obtain ⟨ps, e1, rfl⟩ := e
    exact .lst (SqL.of (hs _ _ h2)) (Dts.dp hs l vs ps h3 e1)
  | .dct l, v, p, h, e => by simp only [D.py] at e; cases e
  | .ref l, v, p, h, e => by simp only [D.py] at e; cases e
  | .hd l, v, p, h, e => by simp only [D.py] at e; cases e
  | .scr l, v, p, h, e => by simp only [D.py] at e; cases e
  | .ty l, v, p, h, e => by simp only [D.py] at e; cases e
theorem Dts.dp (hs : Ext Hf H) : ∀ (l : List D) (vs : List V) (ps : List PyData), Dts K Hf ρ l vs → D.pys l = some ps → DpAll K H vs ps
  | [], vs, ps, h, e => by
    simp only [Dts] at h; subst h
    simp only [D.pys] at e; cases e; exact .nil
  | d :: l, vs, ps, h, e => by
    simp only [Dts] at h
    obtain ⟨v, r, rfl, h2, h3⟩ := h
    simp only [D.pys] at e
    split at e
    · rename_i a b e1 e2
      cases e
      exact .cons (Dt.dp hs d v a h2 e1) (Dts.dp hs l r b h3 e2)
    · cases e
end
theorem Dw.dp {S : Store} (hr : HR K H Hf ρ S) {d : D} {v : V} {p : PyData} (h : Dw K H Hf ρ d v) (e : d.py = some p) : Dp K H v p := by
  cases d with
  | lst l =>
    obtain ⟨a, vs, rfl, _, h2, h3⟩ := h
    simp only [D.py, Option.map_eq_some_iff] at e
    obtain ⟨ps, e1, rfl⟩ := e
    exact .lst (SqL.of h2) (Dts.dp hr.sub l vs ps h3 e1)
  | dct l => simp only [D.py] at e; cases e
  | non => exact Dt.dp hr.sub _ _ _ (show Dt K Hf ρ .non v from h) e
  | bl b => exact Dt.dp hr.sub _ _ _ (show Dt K Hf ρ (.bl b) v from h) e
  | int b => exact Dt.dp hr.sub _ _ _ (show Dt K Hf ρ (.int b) v from h) e
  | str b => exact Dt.dp hr.sub _ _ _ (show Dt K Hf ρ (.str b) v from h) e
  | tup b => exact Dt.dp hr.sub _ _ _ (show Dt K Hf ρ (.tup b) v from h) e
  | ref b => simp only [D.py] at e; cases e
  | hd b => simp only [D.py] at e; cases e
  | scr b => simp only [D.py] at e; cases e
  | ty b => simp only [D.py] at e; cases e
end
/-- == of scalars of one kind -/
def scalD : D → D → Option Bool
  | .int i, .int j => some (decide (i = j))
  | .str i, .str j => some (decide (i = j))
  | .bl i, .bl j => some (decide (i = j))
  | .non, .non => some true
  | _, _ => none
def deepD (a b : D) : Option Bool := match a.py, b.py with
  | some p, some q => if (SeqAt.shaped p && SeqAt.shaped q) = true then some (PyData.eqv p q) else none
  | _, _ => none
def eqD (a b : D) : Option Bool := match scalD a b with
  | some r => some r
  | none => deepD a b
def gEq (a b : D) : Option D := (eqD a b).map D.bl
def gNe (a b : D) : Option D := (eqD a b).map fun r => D.bl (!r)
theorem scalD_inv {K : PySem.W.Frag} {H Hf : Hp} {ρ : List Addr} {a b : D} {x y : V} {r : Bool} (h : scalD a b = some r) (ha : Dw K H Hf ρ a x) (hb : Dw K H Hf ρ b y) : scal x y = true ∧ decide (x = y) = r := by
  unfold scalD at h
  split at h <;> try cases h
  · have ha : x = .int _ := ha
    have hb : y = .int _ := hb
    subst ha hb; exact ⟨rfl, by simp⟩
  · have ha : x = .str _ := ha
    have hb : y = .str _ := hb
    subst ha hb; exact ⟨rfl, by simp⟩
  · have ha : x = .bl _ := ha
    have hb : y = .bl _ := hb
    subst ha hb; exact ⟨rfl, by simp⟩
  · have ha : x = .non := ha
    have hb : y = .non := hb
    subst ha hb; exact ⟨rfl, by simp⟩
theorem deepD_inv {a b : D} {r : Bool} (h : deepD a b = some r) : ∃ p q, a.py = some p ∧ b.py = some q ∧ SeqAt.shaped p = true ∧ SeqAt.shaped q = true ∧ r = PyData.eqv p q := by
  unfold deepD at h
  split at h
  · rename_i p q e1 e2
    split at h
    · rename_i hc
      rw [Bool.and_eq_true] at hc
      cases h
      exact ⟨p, q, e1, e2, hc.1, hc.2, rfl⟩
    · cases h
  · cases h
section
variable {X : Cx}
theorem opq_eq (hu : X.A.units + 64 < cLine) : OpQ X (compareOp .Eq) gEq := by
  refine ⟨_, op_eq.or (op_eqD hu), fun a b x y H Hf ρ S Q d hr wa wb e q => ?_⟩
  simp only [gEq, Option.map_eq_some_iff] at e
  obtain ⟨r, e, rfl⟩ := e
  unfold eqD at e
  split at e
  · rename_i r' e1
    cases e
    obtain ⟨h1, h2⟩ := scalD_inv e1 wa wb
    refine .inl ⟨h1, ?_⟩
    rw [h2]
    exact q _ _ _ _ hr (Tr.refl _ _ _) rfl
  · obtain ⟨p, p', e1, e2, s1, s2, rfl⟩ := deepD_inv e
    exact .inr ⟨p, p', wa.dp hr e1, wb.dp hr e2, s1, s2, q _ _ _ _ hr (Tr.refl _ _ _) rfl⟩
theorem opq_ne (hu : X.A.units + 64 < cLine) : OpQ X (compareOp .NotEq) gNe := by
  refine ⟨_, op_ne.or (op_neD hu), fun a b x y H Hf ρ S Q d hr wa wb e q => ?_⟩
  simp only [gNe, Option.map_eq_some_iff] at e
  obtain ⟨r, e, rfl⟩ := e
  unfold eqD at e
  split at e
  · rename_i r' e1
    cases e
    obtain ⟨h1, h2⟩ := scalD_inv e1 wa wb
    refine .inl ⟨h1, ?_⟩
    rw [h2]
    exact q _ _ _ _ hr (Tr.refl _ _ _) rfl
  · obtain ⟨p, p', e1, e2, s1, s2, rfl⟩ := deepD_inv e
    exact .inr ⟨p, p', wa.dp hr e1, wb.dp hr e2, s1, s2, q _ _ _ _ hr (Tr.refl _ _ _) rfl⟩
end

/-! ### + -/
def gAdd : D → D → Option D
  | .int i, .int j => some (.int (i + j))
  | .str i, .str j => if i.length + j.length ≤ sizeLine then some (.str (i ++ j)) else none
  | .tup i, .tup j => if i.length + j.length ≤ sizeLine then some (.tup (i ++ j)) else none
  | .lst i, .lst j => if i.length + j.length ≤ sizeLine then some (.lst (i ++ j)) else none
  | _, _ => none
section
variable {X : Cx}
def gAddS : D → D → Option D
  | .str i, .str j => if i.length + j.length ≤ sizeLine then some (.str (i ++ j)) else none
  | _, _ => none
def gAddT : D → D → Option D
  | .tup i, .tup j => if i.length + j.length ≤ sizeLine then some (.tup (i ++ j)) else none
  | _, _ => none
def gAddL : D → D → Option D
  | .lst i, .lst j => if i.length + j.length ≤ sizeLine then some (.lst (i ++ j)) else none
  | _, _ => none
theorem opq_addS : OpQ X (binaryOp .Add) gAddS := by
  refine ⟨_, op_add_str, fun a b x y H Hf ρ S Q d hr wa wb e q => ?_⟩
  unfold gAddS at e
  split at e
  · rename_i i j
    split at e
    · rename_i hc
      cases e
      exact ⟨i, j, wa, wb, hc, q _ _ _ _ hr (Tr.refl _ _ _) rfl⟩
    · cases e
  · cases e
theorem opq_addL : OpQ X (binaryOp .Add) gAddL := by
  refine ⟨_, op_cat, fun a b x y H Hf ρ S Q d hr wa wb e q => ?_⟩
  unfold gAddL at e
  split at e
  · rename_i i j
    split at e
    · rename_i hc
      cases e
      obtain ⟨l, vs, rfl, _, h1, h2⟩ := wa
      obtain ⟨m, us, rfl, _, h3, h4⟩ := wb
      refine ⟨l, m, vs, us, rfl, rfl, h1, h3, by rw [← h2.length, ← h4.length]; exact hc, fun p hp => ?_⟩
      exact new_ans (d := .lst (i ++ j)) hr hp (fun Hf' ex hq => ⟨p, _, rfl, hq, (h2.append h4).mono ex (Pre.refl _)⟩) q
    · cases e
  · cases e
theorem opq_addT : OpQ X (binaryOp .Add) gAddT := by
  refine ⟨_, op_catA, fun a b x y H Hf ρ S Q d hr wa wb e q => ?_⟩
  unfold gAddT at e
  split at e
  · rename_i i j
    split at e
    · rename_i hc
      cases e
      obtain ⟨l, vs, rfl, h1, h2⟩ := (show Dt X.K Hf ρ (.tup i) x from wa)
      obtain ⟨m, us, rfl, h3, h4⟩ := (show Dt X.K Hf ρ (.tup j) y from wb)
      refine ⟨l, m, vs, us, rfl, rfl, hr.sub.sqT h1, hr.sub.sqT h3, by rw [← h2.length, ← h4.length]; exact hc, fun z => ?_, fun z1 z2 => ?_, fun z1 z2 p hp => ?_⟩
      · subst z
        cases i with
        | nil => exact q _ _ _ _ hr (Tr.refl _ _ _) ⟨m, us, rfl, h3, h4⟩
        | cons c i => have := h2.length; simp at this
      · subst z2
        cases j with
        | nil => exact q _ _ _ _ hr (Tr.refl _ _ _) ⟨l, vs, rfl, h1, by rw [List.append_nil]; exact h2⟩
        | cons c i => have := h4.length; simp at this
      · exact new_ans (d := .tup (i ++ j)) hr hp (fun Hf' ex hq => ⟨p, _, rfl, SqT.of hq, (h2.append h4).mono ex (Pre.refl _)⟩) q
    · cases e
  · cases e
theorem opq_add : OpQ X (binaryOp .Add) gAdd := by
  have h1 : OpQ X (binaryOp .Add) (iOp (fun _ _ => true) fun i j => .int (i + j)) := opq_int0 op_add fun _ _ _ _ => rfl
  refine OpQ.orI (OpQ.orI h1 opq_addS (G := fun a b => match a, b with | .int i, .int j => some (.int (i + j)) | .str i, .str j => if i.length + j.length ≤ sizeLine then some (.str (i ++ j)) else none | _, _ => none) ?_)
    (OpQ.orI opq_addT opq_addL (G := fun a b => match a, b with | .tup i, .tup j => if i.length + j.length ≤ sizeLine then some (.tup (i ++ j)) else none | .lst i, .lst j => if i.length + j.length ≤ sizeLine then some (.lst (i ++ j)) else none | _, _ => none) ?_) ?_
  · intro a b d e
    cases a <;> cases b <;> simp_all [iOp, gAddS]
  · intro a b d e
    cases a <;> cases b <;> simp_all [gAddT, gAddL]
  · intro a b d e
    cases a <;> cases b <;> simp_all [gAdd]
end
/-! ### -, *, //, %, **, <<, & -/
def gSub : D → D → Option D := iOp (fun _ _ => true) fun i j => .int (i - j)
/-- the sizes that * takes -/
def mulOk (i j : Int) : Bool := decide (i.natAbs < 2 ^ 64) || decide (j.natAbs < 2 ^ 64) || decide (i.natAbs.log2 + j.natAbs.log2 < 1000000)
def gMulI : D → D → Option D := iOp mulOk fun i j => .int (i * j)
def gMul : D → D → Option D
  | .int i, .int j => if mulOk i j = true then some (.int (i * j)) else none
  | .lst l, .int k => if decide (k < 2 ^ 63) && decide (-(2 ^ 63) ≤ k) && decide (l.length * k.toNat ≤ sizeLine) then some (.lst (List.replicate k.toNat l).flatten) else none
  | _, _ => none
def gDiv : D → D → Option D := iOp (fun _ j => decide (0 < j) && decide (j.natAbs.log2 < 9000)) fun i j => .int (i / j)
def gMod : D → D → Option D := iOp (fun _ j => decide (0 < j)) fun i j => .int (i % j)
def gPow : D → D → Option D := iOp (fun i j => decide (0 ≤ j) && decide (j ≤ 1000000) && decide (i.natAbs < 2 ^ 64)) fun i j => .int (i ^ j.toNat)
def gShl : D → D → Option D := iOp (fun i j => decide (0 ≤ j) && decide (j ≤ 1000000) && decide (i.natAbs < 2 ^ 64)) fun i j => .int (i * 2 ^ j.toNat)
def gShr : D → D → Option D := iOp (fun _ j => decide (0 ≤ j)) fun i j => .int (i / 2 ^ j.toNat)
def gAnd : D → D → Option D := iOp (fun _ _ => true) fun i j => .int (Builtin.bitAnd i j)
section
variable {X : Cx}
theorem opq_sub : OpQ X (binaryOp .Sub) gSub := opq_int0 op_sub fun _ _ _ _ => rfl
theorem opq_mulI : OpQ X (binaryOp .Mult) gMulI := by
  have h : OpR X (binaryOp .Mult) (rI (fun i j => CMul i j ∨ CMulW i j) fun i j => .int (i * j)) := by
    intro pins s σ H x y v u Q I rx ry h
    obtain ⟨i, j, e1, e2, hc | hc, q⟩ := h
    · exact op_mul pins s σ H x y v u Q I rx ry ⟨i, j, e1, e2, hc, q⟩
    · exact op_mulW pins s σ H x y v u Q I rx ry ⟨i, j, e1, e2, hc, q⟩
  refine opq_int h (fun i j e => ?_) fun _ _ _ _ => rfl
  unfold mulOk at e
  simp only [Bool.or_eq_true, decide_eq_true_eq] at e
  rcases e with (e | e) | e
  · exact .inl (.inl (by omega))
  · exact .inl (.inr (by omega))
  · exact .inr e
theorem Dts.rep {K : PySem.W.Frag} {Hf : Hp} {ρ : List Addr} {l : List D} {vs : List V} (h : Dts K Hf ρ l vs) : ∀ k : Nat, Dts K Hf ρ (List.replicate k l).flatten (List.replicate k vs).flatten
  | 0 => by simp [Dts]
  | k + 1 => by
    rw [List.replicate_succ, List.replicate_succ, List.flatten_cons, List.flatten_cons]
    exact h.append (Dts.rep h k)
def gRep : D → D → Option D
  | .lst l, .int k => if decide (k < 2 ^ 63) && decide (-(2 ^ 63) ≤ k) && decide (l.length * k.toNat ≤ sizeLine) then some (.lst (List.replicate k.toNat l).flatten) else none
  | _, _ => none
theorem opq_rep : OpQ X (binaryOp .Mult) gRep := by
  refine ⟨_, op_rep, fun a b x y H Hf ρ S Q d hr wa wb e q => ?_⟩
  unfold gRep at e
  split at e
  · rename_i l k
    split at e
    · rename_i hc
      simp only [Bool.and_eq_true, decide_eq_true_eq] at hc
      cases e
      obtain ⟨z, vs, rfl, _, h1, h2⟩ := wa
      have wb : y = .int k := wb
      refine ⟨z, k, vs, rfl, wb, h1, hc.1.2, hc.1.1, by rw [← h2.length]; exact hc.2, fun p hp => ?_⟩
      exact new_ans (d := .lst (List.replicate k.toNat l).flatten) hr hp (fun Hf' ex hq => ⟨p, _, rfl, hq, (h2.rep _).mono ex (Pre.refl _)⟩) q
    · cases e
  · cases e
theorem opq_mul : OpQ X (binaryOp .Mult) gMul := by
  refine OpQ.orI opq_mulI opq_rep ?_
  intro a b d e
  cases a <;> cases b <;> simp_all [gMulI, iOp, gRep, gMul]
theorem opq_div : OpQ X (binaryOp .FloorDiv) gDiv := by
  refine opq_int op_fdivW (fun i j e => ?_) fun _ _ _ _ => rfl
  simp only [Bool.and_eq_true, decide_eq_true_eq] at e
  exact e
theorem opq_mod : OpQ X (binaryOp .Mod) gMod := opq_int op_mod (fun i j e => of_decide_eq_true e) fun _ _ _ _ => rfl
theorem opq_pow : OpQ X (binaryOp .Pow) gPow := by
  refine opq_int op_pow (fun i j e => ?_) fun _ _ _ _ => rfl
  simp only [Bool.and_eq_true, decide_eq_true_eq] at e
  exact ⟨e.1.1, e.1.2, e.2⟩
theorem opq_shl : OpQ X (binaryOp .LShift) gShl := by
  refine opq_int op_shl (fun i j e => ?_) fun _ _ _ _ => rfl
  simp only [Bool.and_eq_true, decide_eq_true_eq] at e
  exact ⟨e.1.1, e.1.2, e.2⟩
theorem opq_shr : OpQ X (binaryOp .RShift) gShr := opq_int op_shr (fun i j e => of_decide_eq_true e) fun _ _ _ _ => rfl
theorem opq_and : OpQ X (binaryOp .BitAnd) gAnd := opq_int0 op_and fun _ _ _ _ => rfl
end
/-! ### comparisons of ints; is None -/
def gLt : D → D → Option D := iOp (fun _ _ => true) fun i j => .bl (decide (i < j))
def gLe : D → D → Option D := iOp (fun _ _ => true) fun i j => .bl (decide (i ≤ j))
def gGt : D → D → Option D := iOp (fun _ _ => true) fun i j => .bl (decide (j < i))
def gGe : D → D → Option D := iOp (fun _ _ => true) fun i j => .bl (decide (j ≤ i))
def gIs : D → D → Option D
  | a, .non => some (.bl (match a with | .non => true | _ => false))
  | _, _ => none
def gIsN : D → D → Option D
  | a, .non => some (.bl (match a with | .non => false | _ => true))
  | _, _ => none
section
variable {X : Cx}
theorem opq_lt : OpQ X (compareOp .Lt) gLt := opq_int0 op_lt fun _ _ _ _ => rfl
theorem opq_le : OpQ X (compareOp .LtE) gLe := opq_int0 op_le fun _ _ _ _ => rfl
theorem opq_gt : OpQ X (compareOp .Gt) gGt := opq_int0 op_gt fun _ _ _ _ => rfl
theorem opq_ge : OpQ X (compareOp .GtE) gGe := opq_int0 op_ge fun _ _ _ _ => rfl
theorem dw_non {K : PySem.W.Frag} {H Hf : Hp} {ρ : List Addr} {a : D} {x : V} (h : Dw K H Hf ρ a x) : decide (x = .non) = (match a with | .non => true | _ => false) := by
  cases a with
  | non => have h : x = .non := h; subst h; rfl
  | bl b => have h : x = .bl b := h; subst h; rfl
  | int b => have h : x = .int b := h; subst h; rfl
  | str b => have h : x = .str b := h; subst h; rfl
  | ref b => have h : x = .ref (He.ga K b) := h; subst h; rfl
  | ty b => have h : x = .ty b := h; subst h; rfl
  | tup b => obtain ⟨p, vs, rfl, _⟩ := (show Dt K Hf ρ (.tup b) x from h); rfl
  | lst b => obtain ⟨p, vs, rfl, _⟩ := h; rfl
  | dct b => obtain ⟨p, vs, rfl, _⟩ := h; rfl
  | hd b => obtain ⟨p, _, rfl⟩ := (show Dt K Hf ρ (.hd b) x from h); rfl
  | scr b => obtain ⟨p, rfl, _⟩ := (show Dt K Hf ρ (.scr b) x from h); rfl
theorem opq_is : OpQ X (compareOp .Is) gIs := by
  refine ⟨_, op_isN, fun a b x y H Hf ρ S Q d hr wa wb e q => ?_⟩
  unfold gIs at e
  split at e
  · cases e
    refine ⟨wb, ?_⟩
    rw [dw_non wa]
    refine q _ _ _ _ hr (Tr.refl _ _ _) ?_
    cases a <;> rfl
  · cases e
theorem opq_isN : OpQ X (compareOp .IsNot) gIsN := by
  refine ⟨_, op_notN, fun a b x y H Hf ρ S Q d hr wa wb e q => ?_⟩
  unfold gIsN at e
  split at e
  · cases e
    refine ⟨wb, ?_⟩
    rw [dw_non wa]
    refine q _ _ _ _ hr (Tr.refl _ _ _) ?_
    cases a <;> rfl
  · cases e
end
end DL

end

section
set_option autoImplicit false
set_option autoImplicit false
namespace DL
open PySem PySem.Spec PyProof.Rows L2

/-! ### tests -/
/-- truth of data -/
def truD : D → Option Bool
  | .non => some false
  | .bl b => some b
  | .int i => some (i != 0)
  | .tup l => some (!l.isEmpty)
  | .lst l => some (!l.isEmpty)
  | .dct _ => none
  | .str s => if s.length ≤ sizeLine then some ((s.length : Int) != 0) else none
  | _ => none
def fTru (f : FE) : FT := fun n E S => (f n E S).bind fun d S1 => match truD d with
  | some b => .ok b S1
  | none => .stk
/-- an expression that gives a bool -/
def fBool (f : FE) : FT := fun n E S => (f n E S).bind fun d S1 => match d with
  | .bl b => .ok b S1
  | _ => .stk
section
variable {K : PySem.W.Frag} {W : WX} {σ : L2.St} {H Hf : Hp} {ρ : List Addr} {Q : Bool → Hp → Prop}
theorem PostE.ofBool {f : FE} {n : Nat} {E : Env} {S : Store} (p : PostT K W σ H Hf ρ Q (fBool f n E S)) : PostE K W σ H Hf ρ (fun x H' => ∃ k, x = .bl k ∧ Q k H') (f n E S) := by
  unfold fBool at p
  cases e : f n E S with
  | stk => rw [e] at p; exact p
  | exc x S1 => rw [e] at p; exact p
  | ok d S1 =>
    rw [e] at p
    cases d <;> try exact p.elim
    rename_i b
    intro v H' Hf' ρ' h1 h2 h3
    exact ⟨b, h3, p H' Hf' ρ' h1 h2⟩
theorem truV_of {S : Store} {d : D} {v : V} {k : Bool} (hr : HR K H Hf ρ S) (w : Dw K H Hf ρ d v) (h : truD d = some k) : TruV K v H k := by
  cases d with
  | non => cases h; have w : v = .non := w; subst w; rfl
  | bl b => have w : v = .bl b := w; subst w; cases h; rfl
  | int b => cases h; have w : v = .int b := w; subst w; rfl
  | str b =>
    have w : v = .str b := w
    subst w
    have h : (if b.length ≤ sizeLine then some ((b.length : Int) != 0) else none) = some k := h
    by_cases hc : b.length ≤ sizeLine
    · rw [if_pos hc] at h
      cases h; exact ⟨hc, rfl⟩
    · rw [if_neg hc] at h; cases h
  | tup l =>
    cases h
    obtain ⟨a, vs, rfl, h1, h2⟩ := (show Dt K Hf ρ (.tup l) v from w)
    refine .inr (.inl ⟨vs, hr.sub.sqT h1, ?_⟩)
    have := h2.length
    cases l <;> cases vs <;> simp_all
  | lst l =>
    cases h
    obtain ⟨a, vs, rfl, _, h1, h2⟩ := w
    refine .inl ⟨vs, SqL.of h1, ?_⟩
    have := h2.length
    cases l <;> cases vs <;> simp_all
  | dct l => cases h
  | ref a => cases h
  | hd a => cases h
  | scr a => cases h
  | ty a => cases h
end
section
variable {X : Cx} {B : Gr} {W : WX} {pos : Pos} {a b c : Expr} {fa fb fc : FE} {ga gb : FT} {rest : List Expr}
theorem t_tru (ha : QR X B W a fa) (he : ∀ whole, isTrue a X.env whole = (do let v ← whole; standAt a.pos; holding [v] (truthy v))) : QT X B W a (fTru fa) := by
  obtain ⟨t, h1, h2⟩ := ha
  refine ⟨_, pt_truth h1 he, fun n E S σ H Hf ρ Q r p => h2 n E S σ H Hf ρ _ r ?_⟩
  unfold fTru at p
  cases e : fa n E S with
  | stk => rw [e] at p; exact p
  | exc x S1 => rw [e] at p; exact p
  | ok d S1 =>
    rw [e] at p
    have p : PostT X.K W σ H Hf ρ Q (match truD d with | some b => .ok b S1 | none => .stk) := p
    cases et : truD d with
    | none => rw [et] at p; exact p.elim
    | some k =>
      rw [et] at p
      intro v H' Hf' ρ' h1 h2 h3
      exact ⟨k, truV_of h1 h3 et, p H' Hf' ρ' h1 h2⟩
/-- a bool as a test (a call, a name) -/
theorem t_val (ha : QE X B W a fa) (he : ∀ whole, isTrue a X.env whole = (do let v ← whole; standAt a.pos; holding [v] (truthy v))) : QT X B W a (fBool fa) := by
  obtain ⟨t, h1, h2⟩ := ha
  exact ⟨_, pt_val h1 he, fun n E S σ H Hf ρ Q r p => h2 n E S σ H Hf ρ _ r (PostE.ofBool p)⟩
theorem t_cmp {op : CmpOp} {g : D → D → Option D} (ho : OpQ X (compareOp op) g) (hm : behindInMarks op b = false) (ha : QR X B W a fa) (hb : QR X B W b fb) : QT X B W (.Compare a [op] [b] pos) (fBool (fOp g fa fb)) := by
  obtain ⟨r, h1, h2⟩ := ho
  obtain ⟨ta, a1, a2⟩ := ha
  obtain ⟨tb, b1, b2⟩ := hb
  exact ⟨_, pt_cmpR h1 a1 b1 hm, fun n E S σ H Hf ρ Q R p => q_two a2 b2 h2 n E S σ H Hf ρ _ R (PostE.ofBool p)⟩

def fNotT (f : FT) : FT := fun n E S => (f n E S).bind fun b S1 => .ok (!b) S1
theorem t_not (ha : QT X B W a ga) : QT X B W (.UnaryOp .Not a pos) (fNotT ga) := by
  obtain ⟨t, h1, h2⟩ := ha
  refine ⟨_, pt_not h1, fun n E S σ H Hf ρ Q r p => h2 n E S σ H Hf ρ _ r ?_⟩
  unfold fNotT at p
  cases e : ga n E S with
  | stk => rw [e] at p; exact p
  | exc x S1 => rw [e] at p; exact p
  | ok d S1 => rw [e] at p; exact fun H' Hf' ρ' h1 h2 => p H' Hf' ρ' h1 h2
def fAndT (f g : FT) : FT := fun n E S => (f n E S).bind fun b S1 => match b with
  | true => g n E S1
  | false => .ok false S1
def fOrT (f g : FT) : FT := fun n E S => (f n E S).bind fun b S1 => match b with
  | true => .ok true S1
  | false => g n E S1
theorem w_and1 (ha : QT X B W a ga) : QW X B W (.BoolOp .And [a] pos) ga := by
  obtain ⟨t, h1, h2⟩ := ha
  exact ⟨_, pw_and1 h1, h2⟩
theorem w_or1 (ha : QT X B W a ga) : QW X B W (.BoolOp .Or [a] pos) ga := by
  obtain ⟨t, h1, h2⟩ := ha
  exact ⟨_, pw_or1 h1, h2⟩
theorem w_and (ha : QT X B W a ga) (hb : QW X B W (.BoolOp .And (b :: rest) pos) gb) : QW X B W (.BoolOp .And (a :: b :: rest) pos) (fAndT ga gb) := by
  obtain ⟨t, h1, h2⟩ := ha
  obtain ⟨u, k1, k2⟩ := hb
  refine ⟨_, pw_and h1 k1, fun n E S σ H Hf ρ Q r p => h2 n E S σ H Hf ρ _ r ?_⟩
  unfold fAndT at p
  cases e : ga n E S with
  | stk => rw [e] at p; exact p
  | exc x S1 => rw [e] at p; exact p
  | ok d S1 =>
    rw [e] at p
    intro H' Hf' ρ' h1 h2
    cases d with
    | false => exact p H' Hf' ρ' h1 h2
    | true =>
      have p : PostT X.K W σ H Hf ρ Q (gb n E S1) := p
      refine k2 n E S1 σ H' Hf' ρ' Q (r.step h1 h2) ?_
      cases e2 : gb n E S1 with
      | stk => rw [e2] at p; exact p
      | exc x S2 => rw [e2] at p; exact PostX.tr h2 p
      | ok d S2 => rw [e2] at p; exact fun H2 Hf2 ρ2 a1 a2 => p H2 Hf2 ρ2 a1 (h2.trans a2)
theorem w_or (ha : QT X B W a ga) (hb : QW X B W (.BoolOp .Or (b :: rest) pos) gb) : QW X B W (.BoolOp .Or (a :: b :: rest) pos) (fOrT ga gb) := by
  obtain ⟨t, h1, h2⟩ := ha
  obtain ⟨u, k1, k2⟩ := hb
  refine ⟨_, pw_or h1 k1, fun n E S σ H Hf ρ Q r p => h2 n E S σ H Hf ρ _ r ?_⟩
  unfold fOrT at p
  cases e : ga n E S with
  | stk => rw [e] at p; exact p
  | exc x S1 => rw [e] at p; exact p
  | ok d S1 =>
    rw [e] at p
    intro H' Hf' ρ' h1 h2
    cases d with
    | true => exact p H' Hf' ρ' h1 h2
    | false =>
      have p : PostT X.K W σ H Hf ρ Q (gb n E S1) := p
      refine k2 n E S1 σ H' Hf' ρ' Q (r.step h1 h2) ?_
      cases e2 : gb n E S1 with
      | stk => rw [e2] at p; exact p
      | exc x S2 => rw [e2] at p; exact PostX.tr h2 p
      | ok d S2 => rw [e2] at p; exact fun H2 Hf2 ρ2 a1 a2 => p H2 Hf2 ρ2 a1 (h2.trans a2)
theorem t_w (h : QW X B W a ga) : QT X B W a ga := by
  obtain ⟨t, h1, h2⟩ := h
  exact ⟨_, h1.pt, h2⟩

/-! ### and, or, not as values; a if t else b; chains -/
def fAnd (f g : FE) : FE := fun n E S => (f n E S).bind fun d S1 => match d with
  | .bl true => g n E S1
  | .bl false => .ok (.bl false) S1
  | _ => .stk
def fOr (f g : FE) : FE := fun n E S => (f n E S).bind fun d S1 => match d with
  | .bl true => .ok (.bl true) S1
  | .bl false => g n E S1
  | _ => .stk
def fNot (f : FE) : FE := fun n E S => (f n E S).bind fun d S1 => match d with
  | .bl b => .ok (.bl (!b)) S1
  | _ => .stk
theorem PostE.tr {K : PySem.W.Frag} {σ : L2.St} {H Hf H' Hf' : Hp} {ρ ρ' : List Addr} {Q : VK} {r : Res D} (t : Tr H Hf ρ H' Hf' ρ') (p : PostE K W σ H Hf ρ Q r) : PostE K W σ H' Hf' ρ' Q r := by
  cases r with
  | stk => exact p
  | exc x S2 => exact PostX.tr t p
  | ok d S2 => exact fun v H2 Hf2 ρ2 a1 a2 a3 => p v H2 Hf2 ρ2 a1 (t.trans a2) a3
theorem PostR.tr {K : PySem.W.Frag} {σ : L2.St} {H Hf H' Hf' : Hp} {ρ ρ' : List Addr} {Q : VK} {r : Res D} (t : Tr H Hf ρ H' Hf' ρ') (p : PostR K W σ H Hf ρ Q r) : PostR K W σ H' Hf' ρ' Q r := by
  cases r with
  | stk => exact p
  | exc x S2 => exact PostX.tr t p
  | ok d S2 => exact fun v H2 Hf2 ρ2 a1 a2 a3 => p v H2 Hf2 ρ2 a1 (t.trans a2) a3
theorem q_one {op : BoolOp} (h : QE X B W a fa) : QE X B W (.BoolOp op [a] pos) fa := by
  obtain ⟨t, h1, h2⟩ := h
  exact ⟨_, pe_one h1, h2⟩
theorem q_and (ha : QE X B W a fa) (hb : QE X B W (.BoolOp .And (b :: rest) pos) fb) : QE X B W (.BoolOp .And (a :: b :: rest) pos) (fAnd fa fb) := by
  obtain ⟨t, h1, h2⟩ := ha
  obtain ⟨u, k1, k2⟩ := hb
  refine ⟨_, pe_and h1 k1, fun n E S σ H Hf ρ Q r p => h2 n E S σ H Hf ρ _ r ?_⟩
  unfold fAnd at p
  cases e : fa n E S with
  | stk => rw [e] at p; exact p
  | exc x S1 => rw [e] at p; exact p
  | ok d S1 =>
    rw [e] at p
    intro v H' Hf' ρ' h1 h2 h3
    cases d <;> try exact p.elim
    rename_i z
    refine ⟨z, h3, ?_⟩
    cases z with
    | false => exact p _ H' Hf' ρ' h1 h2 rfl
    | true => exact k2 n E S1 σ H' Hf' ρ' Q (r.step h1 h2) (PostE.tr h2 p)
theorem q_or (ha : QE X B W a fa) (hb : QE X B W (.BoolOp .Or (b :: rest) pos) fb) : QE X B W (.BoolOp .Or (a :: b :: rest) pos) (fOr fa fb) := by
  obtain ⟨t, h1, h2⟩ := ha
  obtain ⟨u, k1, k2⟩ := hb
  refine ⟨_, pe_or h1 k1, fun n E S σ H Hf ρ Q r p => h2 n E S σ H Hf ρ _ r ?_⟩
  unfold fOr at p
  cases e : fa n E S with
  | stk => rw [e] at p; exact p
  | exc x S1 => rw [e] at p; exact p
  | ok d S1 =>
    rw [e] at p
    intro v H' Hf' ρ' h1 h2 h3
    cases d <;> try exact p.elim
    rename_i z
    refine ⟨z, h3, ?_⟩
    cases z with
    | true => exact p _ H' Hf' ρ' h1 h2 rfl
    | false => exact k2 n E S1 σ H' Hf' ρ' Q (r.step h1 h2) (PostE.tr h2 p)
theorem q_not (ha : QE X B W a fa) : QE X B W (.UnaryOp .Not a pos) (fNot fa) := by
  obtain ⟨t, h1, h2⟩ := ha
  refine ⟨_, pe_not h1, fun n E S σ H Hf ρ Q r p => h2 n E S σ H Hf ρ _ r ?_⟩
  unfold fNot at p
  cases e : fa n E S with
  | stk => rw [e] at p; exact p
  | exc x S1 => rw [e] at p; exact p
  | ok d S1 =>
    rw [e] at p
    intro v H' Hf' ρ' h1 h2 h3
    cases d <;> try exact p.elim
    rename_i z
    exact ⟨z, h3, p _ H' Hf' ρ' h1 h2 rfl⟩
def fIf (c : FT) (f g : FE) : FE := fun n E S => (c n E S).bind fun b S1 => match b with
  | true => f n E S1
  | false => g n E S1
theorem q_if {t : Expr} {gt : FT} (hc : QT X B W t gt) (ha : QE X B W a fa) (hb : QE X B W b fb) : QE X B W (.IfExp t a b pos) (fIf gt fa fb) := by
  obtain ⟨tt, c1, c2⟩ := hc
  obtain ⟨ta, a1, a2⟩ := ha
  obtain ⟨tb, b1, b2⟩ := hb
  refine ⟨_, pe_ifExp c1 a1 b1, fun n E S σ H Hf ρ Q r p => c2 n E S σ H Hf ρ _ r ?_⟩
  unfold fIf at p
  cases e : gt n E S with
  | stk => rw [e] at p; exact p
  | exc x S1 => rw [e] at p; exact p
  | ok d S1 =>
    rw [e] at p
    intro H' Hf' ρ' h1 h2
    cases d with
    | true => exact a2 n E S1 σ H' Hf' ρ' Q (r.step h1 h2) (PostE.tr h2 p)
    | false => exact b2 n E S1 σ H' Hf' ρ' Q (r.step h1 h2) (PostE.tr h2 p)
/-- a op b op' c, of ints alone -/
def fChain (g g' : D → D → Option D) (fa fb fc : FE) : FE := fun n E S => (fa n E S).bind fun a S1 => (fb n E S1).bind fun b S2 => match g a b with
  | some (.bl true) => (fc n E S2).bind fun c S3 => match g' b c with
    | some d => .ok d S3
    | none => .stk
  | some (.bl false) => .ok (.bl false) S2
  | _ => .stk
theorem q_chain_ {op op' : CmpOp} {g g' : D → D → Option D} {r r' : R2} {ta tb tc : TE}
    (h2 : ∀ a b x y H Hf ρ S Q d, HR X.K H Hf ρ S → Dw X.K H Hf ρ a x → Dw X.K H Hf ρ b y → g a b = some d →
      (∀ v H' Hf' ρ', HR X.K H' Hf' ρ' S → Tr H Hf ρ H' Hf' ρ' → Dt X.K Hf' ρ' d v → Q v H') → r x y H Q)
    (h2' : ∀ a b x y H Hf ρ S Q d, HR X.K H Hf ρ S → Dw X.K H Hf ρ a x → Dw X.K H Hf ρ b y → g' a b = some d →
      (∀ v H' Hf' ρ', HR X.K H' Hf' ρ' S → Tr H Hf ρ H' Hf' ρ' → Dt X.K Hf' ρ' d v → Q v H') → r' x y H Q)
    (a2 : ∀ n E S σ H Hf ρ Q, Rel X.K B E S σ H Hf ρ → PostR X.K W σ H Hf ρ Q (fa n E S) → ta σ H Q)
    (b2 : ∀ n E S σ H Hf ρ Q, Rel X.K B E S σ H Hf ρ → PostR X.K W σ H Hf ρ Q (fb n E S) → tb σ H Q)
    (c2 : ∀ n E S σ H Hf ρ Q, Rel X.K B E S σ H Hf ρ → PostR X.K W σ H Hf ρ Q (fc n E S) → tc σ H Q)
    (n : Nat) (E : Env) (S : Store) (σ : L2.St) (H Hf : Hp) (ρ : List Addr) (Q : VK) (R : Rel X.K B E S σ H Hf ρ) (p : PostE X.K W σ H Hf ρ Q (fChain g g' fa fb fc n E S)) : tChain r r' ta tb tc σ H Q := by
  refine a2 n E S σ H Hf ρ _ R ?_
  unfold fChain at p
  cases ea : fa n E S with
  | stk => rw [ea] at p; exact p
  | exc x S1 => rw [ea] at p; exact p
  | ok d1 S1 =>
    rw [ea] at p
    intro x H1 Hf1 ρ1 hr1 t1 w1
    refine b2 n E S1 σ H1 Hf1 ρ1 _ (R.step hr1 t1) ?_
    have p : PostE X.K W σ H Hf ρ Q ((fb n E S1).bind fun b S2 => match g d1 b with
      | some (.bl true) => (fc n E S2).bind fun c S3 => match g' b c with
        | some d => .ok d S3
        | none => .stk
      | some (.bl false) => .ok (.bl false) S2
      | _ => .stk) := p
    cases eb : fb n E S1 with
    | stk => rw [eb] at p; exact p
    | exc x S2 => rw [eb] at p; exact PostX.tr t1 p
    | ok d2 S2 =>
      rw [eb] at p
      intro y H2 Hf2 ρ2 hr2 t2 w2
      have p : PostE X.K W σ H Hf ρ Q (match g d1 d2 with
        | some (.bl true) => (fc n E S2).bind fun c S3 => match g' d2 c with
          | some d => .ok d S3
          | none => .stk
        | some (.bl false) => .ok (.bl false) S2
        | _ => .stk) := p
      cases eg : g d1 d2 with
      | none => rw [eg] at p; exact p.elim
      | some d =>
        rw [eg] at p
        cases d <;> try exact p.elim
        rename_i k
        refine h2 d1 d2 x y H2 Hf2 ρ2 S2 _ _ hr2 (w1.mono t2 hr1) w2 eg fun v H' Hf' ρ' h1 h2 h3 => ?_
        refine ⟨k, h3, ?_⟩
        cases k with
        | false => exact p _ H' Hf' ρ' h1 ((t1.trans t2).trans h2) rfl
        | true =>
          have p : PostE X.K W σ H Hf ρ Q ((fc n E S2).bind fun c S3 => match g' d2 c with
            | some d => .ok d S3
            | none => .stk) := p
          refine c2 n E S2 σ H' Hf' ρ' _ (((R.step hr1 t1).step hr2 t2).step h1 h2) ?_
          cases ec : fc n E S2 with
          | stk => rw [ec] at p; exact p
          | exc x S3 => rw [ec] at p; exact PostX.tr ((t1.trans t2).trans h2) p
          | ok d3 S3 =>
            rw [ec] at p
            intro z H3 Hf3 ρ3 hr3 t3 w3
            have p : PostE X.K W σ H Hf ρ Q (match g' d2 d3 with | some d => .ok d S3 | none => .stk) := p
            cases eg' : g' d2 d3 with
            | none => rw [eg'] at p; exact p.elim
            | some d =>
              rw [eg'] at p
              exact h2' d2 d3 y z H3 Hf3 ρ3 S3 Q d hr3 ((w2.mono h2 hr2).mono t3 h1) w3 eg' fun v H4 Hf4 ρ4 k1 k2 k3 => p v H4 Hf4 ρ4 k1 ((((t1.trans t2).trans h2).trans t3).trans k2) k3
theorem q_chain {op op' : CmpOp} {g g' : D → D → Option D} (ho : OpQ X (compareOp op) g) (ho' : OpQ X (compareOp op') g') (ha : QR X B W a fa) (hb : QR X B W b fb) (hc : QR X B W c fc)
    (hm : lastMarks [op, op'] [b, c] = false) : QE X B W (.Compare a [op, op'] [b, c] pos) (fChain g g' fa fb fc) := by
  obtain ⟨r, h1, h2⟩ := ho
  obtain ⟨r', h1', h2'⟩ := ho'
  obtain ⟨ta, a1, a2⟩ := ha
  obtain ⟨tb, b1, b2⟩ := hb
  obtain ⟨tc, c1, c2⟩ := hc
  exact ⟨_, pe_chain h1 h1' a1 b1 c1 hm, q_chain_ (op := op) (op' := op') h2 h2' a2 b2 c2⟩
theorem t_chain {op op' : CmpOp} {g g' : D → D → Option D} (ho : OpQ X (compareOp op) g) (ho' : OpQ X (compareOp op') g') (ha : QR X B W a fa) (hb : QR X B W b fb) (hc : QR X B W c fc)
    (hm : lastMarks [op, op'] [b, c] = false) : QT X B W (.Compare a [op, op'] [b, c] pos) (fBool (fChain g g' fa fb fc)) := by
  obtain ⟨r, h1, h2⟩ := ho
  obtain ⟨r', h1', h2'⟩ := ho'
  obtain ⟨ta, a1, a2⟩ := ha
  obtain ⟨tb, b1, b2⟩ := hb
  obtain ⟨tc, c1, c2⟩ := hc
  exact ⟨_, pt_chain h1 h1' a1 b1 c1 hm, fun n E S σ H Hf ρ Q R p => q_chain_ (op := op) (op' := op') h2 h2' a2 b2 c2 n E S σ H Hf ρ _ R (PostE.ofBool p)⟩
end
end DL

end

section
set_option autoImplicit false
set_option autoImplicit false
namespace DL
open PySem PySem.Spec PyProof.Rows L2

/-! ### arguments -/
def fNil : FA := fun _ _ S => .ok [] S
def fCons (f : FE) (g : FA) : FA := fun n E S => (f n E S).bind fun d S1 => (g n E S1).bind fun ds S2 => .ok (d :: ds) S2
section
variable {X : Cx} {B : Gr} {W : WX} {pos : Pos} {e : Expr} {es : List Expr} {f : FE} {g : FA}
theorem a_nil : QA X B W [] fNil := ⟨_, pa_nil, fun n E S σ H Hf ρ Q r p => p _ _ _ _ r.hr (Tr.refl _ _ _) rfl⟩
theorem ar_nil : QAr X B W [] fNil := ⟨_, pa_nil, fun n E S σ H Hf ρ Q r p => p _ _ _ _ r.hr (Tr.refl _ _ _) rfl⟩
theorem a_cons (ha : QE X B W e f) (hr : QA X B W es g) (hs : starEach (e :: es) X.env = (false, eval e X.env) :: starEach es X.env) : QA X B W (e :: es) (fCons f g) := by
  obtain ⟨t, h1, h2⟩ := ha
  obtain ⟨u, k1, k2⟩ := hr
  refine ⟨_, pa_cons h1 k1 hs, fun n E S σ H Hf ρ Q r p => h2 n E S σ H Hf ρ _ r ?_⟩
  unfold fCons at p
  cases e1 : f n E S with
  | stk => rw [e1] at p; exact p
  | exc x S1 => rw [e1] at p; exact p
  | ok d S1 =>
    rw [e1] at p
    intro v H1 Hf1 ρ1 hr1 t1 w1
    refine k2 n E S1 σ H1 Hf1 ρ1 _ (r.step hr1 t1) ?_
    have p : PostA X.K W σ H Hf ρ Q ((g n E S1).bind fun ds S2 => .ok (d :: ds) S2) := p
    cases e2 : g n E S1 with
    | stk => rw [e2] at p; exact p
    | exc x S2 => rw [e2] at p; exact PostX.tr t1 p
    | ok ds S2 =>
      rw [e2] at p
      intro vs H2 Hf2 ρ2 hr2 t2 w2
      exact p _ _ _ _ hr2 (t1.trans t2) ⟨v, vs, rfl, w1.mono t2.hf t2.pre, w2⟩
theorem ar_cons (ha : QR X B W e f) (hr : QAr X B W es g) (hs : starEach (e :: es) X.env = (false, eval e X.env) :: starEach es X.env) : QAr X B W (e :: es) (fCons f g) := by
  obtain ⟨t, h1, h2⟩ := ha
  obtain ⟨u, k1, k2⟩ := hr
  refine ⟨_, pa_cons h1 k1 hs, fun n E S σ H Hf ρ Q r p => h2 n E S σ H Hf ρ _ r ?_⟩
  unfold fCons at p
  cases e1 : f n E S with
  | stk => rw [e1] at p; exact p
  | exc x S1 => rw [e1] at p; exact p
  | ok d S1 =>
    rw [e1] at p
    intro v H1 Hf1 ρ1 hr1 t1 w1
    refine k2 n E S1 σ H1 Hf1 ρ1 _ (r.step hr1 t1) ?_
    have p : PostAr X.K W σ H Hf ρ Q ((g n E S1).bind fun ds S2 => .ok (d :: ds) S2) := p
    cases e2 : g n E S1 with
    | stk => rw [e2] at p; exact p
    | exc x S2 => rw [e2] at p; exact PostX.tr t1 p
    | ok ds S2 =>
      rw [e2] at p
      intro vs H2 Hf2 ρ2 hr2 t2 w2
      exact p _ _ _ _ hr2 (t1.trans t2) ⟨v, vs, rfl, w1.mono t2 hr1, w2⟩
end

/-! ### displays -/
def fTup (g : FA) : FE := fun n E S => (g n E S).bind fun ds S1 => if ds.length ≤ 1000 then .ok (.tup ds) S1 else .stk
def fLst (g : FA) : FE := fun n E S => (g n E S).bind fun ds S1 => if ds.length ≤ 1000 then .ok (.lst ds) S1 else .stk
theorem le_line {n : Nat} (h : n ≤ 1000) : n ≤ sizeLine := Nat.le_trans h (by decide)
section
variable {X : Cx} {B : Gr} {W : WX} {pos : Pos} {es : List Expr} {g : FA}
theorem q_tup {k : Nat} (h : QA X B W es g) : QE X B W (.Tuple es k pos) (fTup g) := by
  obtain ⟨t, h1, h2⟩ := h
  refine ⟨_, pe_tup h1, fun n E S σ H Hf ρ Q r p => h2 n E S σ H Hf ρ _ r ?_⟩
  unfold fTup at p
  cases e1 : g n E S with
  | stk => rw [e1] at p; exact p
  | exc x S1 => rw [e1] at p; exact p
  | ok ds S1 =>
    rw [e1] at p
    have p : PostE X.K W σ H Hf ρ Q (if ds.length ≤ 1000 then .ok (.tup ds) S1 else .stk) := p
    by_cases hl : ds.length ≤ 1000
    · rw [if_pos hl] at p
      intro vs H1 Hf1 ρ1 hr1 t1 w1
      refine ⟨le_line (by rw [← w1.length]; exact hl), fun q hq => ?_⟩
      exact new_ans (d := .tup ds) hr1 hq (fun Hf' ex hq' => ⟨q, _, rfl, SqT.of hq', w1.mono ex (Pre.refl _)⟩) fun v H' Hf' ρ' a b c => p v H' Hf' ρ' a (t1.trans b) c
    · rw [if_neg hl] at p; exact p.elim
theorem f_lst (h : QA X B W es g) : QF X B W (.List es pos) (fLst g) := by
  obtain ⟨t, h1, h2⟩ := h
  refine ⟨_, pe_lst h1, fun n E S σ H Hf ρ Q r p => h2 n E S σ H Hf ρ _ r ?_⟩
  unfold fLst at p
  cases e1 : g n E S with
  | stk => rw [e1] at p; exact p
  | exc x S1 => rw [e1] at p; exact p
  | ok ds S1 =>
    rw [e1] at p
    have p : PostF X.K W σ H Hf ρ Q (if ds.length ≤ 1000 then .ok (.lst ds) S1 else .stk) := p
    by_cases hl : ds.length ≤ 1000
    · rw [if_pos hl] at p
      intro vs H1 Hf1 ρ1 hr1 t1 w1
      refine ⟨le_line (by rw [← w1.length]; exact hl), fun q hq => ?_⟩
      have nH : H q = none := by
        cases z : H q with
        | none => rfl
        | some o => exact absurd hq (t1.alive q (by rw [z]; simp))
      exact p q _ Hf1 ρ1 (hr1.own (hr1.hnone hq) (hr1.notin hq)) (t1.trans (Tr.own hq)) nH (hr1.hnone hq) (hr1.notin hq) ⟨vs, upd_same, w1⟩
    · rw [if_neg hl] at p; exact p.elim
end

/-! ### calls of defs -/
def PostM (K : PySem.W.Frag) (H Hf : Hp) (ρ : List Addr) (Q : VK) (Ex : XK) : Res D → Prop
  | .ok d S' => ∀ v H' Hf' ρ', HR K H' Hf' ρ' S' → Tr H Hf ρ H' Hf' ρ' → Dt K Hf' ρ' d v → Q v H'
  | .exc x S' => ∀ c od H' Hf' ρ', HR K H' Hf' ρ' S' → Tr H Hf ρ H' Hf' ρ' → ExcAt K Hf' ρ' H' x c od → Ex c od H'
  | .stk => False
/-- a def's promise, by what it makes of data -/
def spD (K : PySem.W.Frag) (np : Nat) (m : MF) : Sp := fun vs H Q Ex => ∃ ds S Hf ρ, ds.length = np ∧ HR K H Hf ρ S ∧ Dts K Hf ρ ds vs ∧ PostM K H Hf ρ Q Ex (m ds S)
/-- the def that stands at f makes m of its arguments -/
structure FnD (P : Program) (w : World) (K : PySem.W.Frag) (mg : Str → Option Value) (base : Heap) (k : Nat) (f : Addr) (np : Nat) (m : MF) : Prop where
  ex : ∃ fd ps, ps.length = np ∧ FnOk P w K mg base (L2.CX P w) k f fd ps (spD K np m) ∧ PySem.W.keepIn K (.ref f) = true ∧ Binds K fd ps []
/-- the module's name x -/
structure Callee (X : Cx) (x : Str) (k : Nat) (np : Nat) (m : MF) : Prop where
  gl : Gl X x
  db : (x == ("__debug__" : Str)) = false
  ex : ∃ f, X.mg x = some (.ref f) ∧ FnD X.prog X.w X.K X.mg X.base k f np m
def fCall (m : MF) (g : FA) : FE := fun n E S => (g n E S).bind fun ds S1 => m ds S1
section
variable {X : Cx} {B : Gr} {W : WX} {pos p1 : Pos} {e : Expr} {es : List Expr} {g : FA} {x : Str} {k np : Nat} {m : MF}
theorem q_call (c : Callee X x k np m) (hr : Room k X.A) (tk : Takes X W) (ha : QA X B W (e :: es) g) (hl : ∀ n E S ds S', g n E S = .ok ds S' → ds.length = np)
    (he : starEach (e :: es) X.env = (false, eval e X.env) :: starEach es X.env) (hpl : (backTo pos (starEach es X.env)).any (·.1) = false) : QE X B W (.Call (.Name x p1) (e :: es) [] pos) (fCall m g) := by
  obtain ⟨f, hm, ⟨fd, ps, hps, F, hk, hb⟩⟩ := c.ex
  obtain ⟨t, h1, h2⟩ := ha
  refine ⟨_, pe_callS F hr c.gl hm hk hb (fun σ => passAt tk σ) h1 c.db he hpl, fun n E S σ H Hf ρ Q r p => h2 n E S σ H Hf ρ _ r ?_⟩
  unfold fCall at p
  cases e1 : g n E S with
  | stk => rw [e1] at p; exact p
  | exc y S1 => rw [e1] at p; exact p
  | ok ds S1 =>
    rw [e1] at p
    intro vs H1 Hf1 ρ1 hr1 t1 w1
    refine ⟨ds, S1, Hf1, ρ1, hl n E S ds S1 e1, hr1, w1, ?_⟩
    have p : PostE X.K W σ H Hf ρ Q (m ds S1) := p
    cases e2 : m ds S1 with
    | stk => rw [e2] at p; exact p
    | exc y S2 => rw [e2] at p; exact fun c od H' Hf' ρ' a b d => p c od H' Hf' ρ' a (t1.trans b) d
    | ok d S2 => rw [e2] at p; exact fun v H' Hf' ρ' a b d => p v H' Hf' ρ' a (t1.trans b) d
end
/-- how many a written list of arguments gives -/
structure Len (g : FA) (k : Nat) : Prop where
  len : ∀ n E S ds S', g n E S = .ok ds S' → ds.length = k
theorem len_nil : Len fNil 0 := ⟨fun n E S ds S' h => by cases h; rfl⟩
theorem len_cons {f : FE} {g : FA} {k : Nat} (h : Len g k) : Len (fCons f g) (k + 1) := ⟨fun n E S ds S' e => by
  unfold fCons at e
  cases e1 : f n E S with
  | stk => rw [e1] at e; cases e
  | exc y S1 => rw [e1] at e; cases e
  | ok d S1 =>
    rw [e1] at e
    have e : ((g n E S1).bind fun ds S2 => Res.ok (d :: ds) S2) = .ok ds S' := e
    cases e2 : g n E S1 with
    | stk => rw [e2] at e; cases e
    | exc y S1 => rw [e2] at e; cases e
    | ok es S2 =>
      rw [e2] at e
      cases e
      rw [List.length_cons, h.len _ _ _ _ _ e2]⟩

/-! ### calls of what is built in -/
def CallQ (X : Cx) (f : Value) (g : List D → Option D) : Prop := ∃ r, CallR X f r ∧
  ∀ ds vs H Hf ρ S Q d, HR X.K H Hf ρ S → Dws X.K H Hf ρ ds vs → g ds = some d →
    (∀ v H' Hf' ρ', HR X.K H' Hf' ρ' S → Tr H Hf ρ H' Hf' ρ' → Dt X.K Hf' ρ' d v → Q v H') → r vs H Q
def fCB (m : List D → Option D) (g : FA) : FE := fun n E S => (g n E S).bind fun ds S1 => match m ds with
  | some d => .ok d S1
  | none => .stk
/-- the built-in name x -/
structure Blt (X : Cx) (x : Str) : Prop where
  gl : Gl X x
  free : X.mg x = none
section
variable {X : Cx} {B : Gr} {W : WX} {pos p1 : Pos} {e : Expr} {es : List Expr} {g : FA} {x : Str} {m : List D → Option D}
theorem cb_post {r : List V → Hp → VK → Prop} {t : TA} (h2 : ∀ ds vs H Hf ρ S Q d, HR X.K H Hf ρ S → Dws X.K H Hf ρ ds vs → m ds = some d →
    (∀ v H' Hf' ρ', HR X.K H' Hf' ρ' S → Tr H Hf ρ H' Hf' ρ' → Dt X.K Hf' ρ' d v → Q v H') → r vs H Q)
    (k2 : ∀ n E S σ H Hf ρ Q, Rel X.K B E S σ H Hf ρ → PostAr X.K W σ H Hf ρ Q (g n E S) → t σ H Q)
    (n : Nat) (E : Env) (S : Store) (σ : L2.St) (H Hf : Hp) (ρ : List Addr) (Q : VK) (R : Rel X.K B E S σ H Hf ρ) (p : PostE X.K W σ H Hf ρ Q (fCB m g n E S)) : tCB r t σ H Q := by
  refine k2 n E S σ H Hf ρ _ R ?_
  unfold fCB at p
  cases e1 : g n E S with
  | stk => rw [e1] at p; exact p
  | exc y S1 => rw [e1] at p; exact p
  | ok ds S1 =>
    rw [e1] at p
    intro vs H1 Hf1 ρ1 hr1 t1 w1
    have p : PostE X.K W σ H Hf ρ Q (match m ds with | some d => .ok d S1 | none => .stk) := p
    cases e2 : m ds with
    | none => rw [e2] at p; exact p.elim
    | some d =>
      rw [e2] at p
      exact h2 ds vs H1 Hf1 ρ1 S1 Q d hr1 w1 e2 fun v H' Hf' ρ' a b c => p v H' Hf' ρ' a (t1.trans b) c
theorem q_cb {id : String} (hc : CallQ X (.builtin id) m) (hb : Blt X x) (hv : bootBuiltins x = some (.builtin id)) (hn : x ≠ "__name__") (hdb : (x == ("__debug__" : Str)) = false) (ha : QAr X B W (e :: es) g)
    (he : starEach (e :: es) X.env = (false, eval e X.env) :: starEach es X.env) (hpl : (backTo pos (starEach es X.env)).any (·.1) = false) : QE X B W (.Call (.Name x p1) (e :: es) [] pos) (fCB m g) := by
  obtain ⟨r, h1, h2⟩ := hc
  obtain ⟨t, k1, k2⟩ := ha
  exact ⟨_, pe_callB h1 hb.gl hb.free hv k1 hn hdb he hpl, cb_post h2 k2⟩
theorem q_ct {T : String} (hc : CallQ X (.type T) m) (hb : Blt X x) (hv : bootBuiltins x = some (.type T)) (hn : x ≠ "__name__") (hdb : (x == ("__debug__" : Str)) = false) (ha : QAr X B W (e :: es) g)
    (he : starEach (e :: es) X.env = (false, eval e X.env) :: starEach es X.env) (hpl : (backTo pos (starEach es X.env)).any (·.1) = false) : QE X B W (.Call (.Name x p1) (e :: es) [] pos) (fCB m g) := by
  obtain ⟨r, h1, h2⟩ := hc
  obtain ⟨t, k1, k2⟩ := ha
  exact ⟨_, pe_callTy h1 hb.gl hb.free hv k1 hn hdb he hpl, cb_post h2 k2⟩
/-- a type's name as a value -/
theorem q_ty {T : String} (hb : Blt X x) (hv : bootBuiltins x = some (.type T)) (hn : x ≠ "__name__") (hdb : (x == ("__debug__" : Str)) = false) : QE X B W (.Name x pos) (fC (.ty T)) :=
  ⟨_, pe_bltn (v := .ty T) hb.gl hb.free hv rfl hn hdb, fun n E S σ H Hf ρ Q r p => p _ _ _ _ r.hr (Tr.refl _ _ _) rfl⟩
end

/-! ### the built-ins -/
section
variable {K : PySem.W.Frag} {H Hf : Hp} {ρ : List Addr} {vs : List V} {a b : D}
theorem dws1 (h : Dws K H Hf ρ [a] vs) : ∃ x, vs = [x] ∧ Dw K H Hf ρ a x := by
  obtain ⟨v, r, rfl, h1, h2⟩ := h
  cases h2
  exact ⟨v, rfl, h1⟩
theorem dws2 (h : Dws K H Hf ρ [a, b] vs) : ∃ x y, vs = [x, y] ∧ Dw K H Hf ρ a x ∧ Dw K H Hf ρ b y := by
  obtain ⟨v, r, rfl, h1, h2⟩ := h
  obtain ⟨y, rfl, h3⟩ := dws1 h2
  exact ⟨v, y, rfl, h1, h3⟩
end
def gAbs : List D → Option D
  | [.int i] => some (.int (if i < 0 then -i else i))
  | _ => none
def gMax2 : List D → Option D
  | [.int i, .int j] => some (.int (if j > i then j else i))
  | _ => none
def gMin2 : List D → Option D
  | [.int i, .int j] => some (.int (if j < i then j else i))
  | _ => none
def gInt : List D → Option D
  | [.int i] => some (.int i)
  | [.bl b] => some (.int (if b then 1 else 0))
  | _ => none
def gLen : List D → Option D
  | [.lst l] => some (.int l.length)
  | [.tup l] => some (.int l.length)
  | [.str s] => if s.length ≤ sizeLine then some (.int s.length) else none
  | _ => none
def gSum : List D → Option D
  | [.lst l] => (ints? l).map fun ns => .int ns.sum
  | _ => none
def gAny : List D → Option D
  | [.lst l] => (bls? l).map fun ns => .bl (ns.any id)
  | _ => none
def gAll : List D → Option D
  | [.lst l] => (bls? l).map fun ns => .bl (ns.all id)
  | _ => none
/-- the least, the greatest of some ints -/
def minI : List Int → Int
  | [] => 0
  | [a] => a
  | a :: l => if a ≤ minI l then a else minI l
def maxI : List Int → Int
  | [] => 0
  | [a] => a
  | a :: l => if maxI l ≤ a then a else maxI l
theorem minI_spec : ∀ l : List Int, l ≠ [] → minI l ∈ l ∧ ∀ y ∈ l, minI l ≤ y
  | [], h => absurd rfl h
  | [a], _ => by simp [minI]
  | a :: b :: l, _ => by
    obtain ⟨h1, h2⟩ := minI_spec (b :: l) (by simp)
    by_cases z : a ≤ minI (b :: l)
    · have e : minI (a :: b :: l) = a := by unfold minI; rw [if_pos z]
      rw [e]
      refine ⟨by simp, fun y hy => ?_⟩
      rcases List.mem_cons.mp hy with rfl | hy
      · exact Int.le_refl _
      · exact Int.le_trans z (h2 y hy)
    · have e : minI (a :: b :: l) = minI (b :: l) := by rw [minI]; rw [if_neg z]; simp
      rw [e]
      refine ⟨List.mem_cons_of_mem _ h1, fun y hy => ?_⟩
      rcases List.mem_cons.mp hy with rfl | hy
      · omega
      · exact h2 y hy
theorem maxI_spec : ∀ l : List Int, l ≠ [] → maxI l ∈ l ∧ ∀ y ∈ l, y ≤ maxI l
  | [], h => absurd rfl h
  | [a], _ => by simp [maxI]
  | a :: b :: l, _ => by
    obtain ⟨h1, h2⟩ := maxI_spec (b :: l) (by simp)
    by_cases z : maxI (b :: l) ≤ a
    · have e : maxI (a :: b :: l) = a := by unfold maxI; rw [if_pos z]
      rw [e]
      refine ⟨by simp, fun y hy => ?_⟩
      rcases List.mem_cons.mp hy with rfl | hy
      · exact Int.le_refl _
      · exact Int.le_trans (h2 y hy) z
    · have e : maxI (a :: b :: l) = maxI (b :: l) := by rw [maxI]; rw [if_neg z]; simp
      rw [e]
      refine ⟨List.mem_cons_of_mem _ h1, fun y hy => ?_⟩
      rcases List.mem_cons.mp hy with rfl | hy
      · omega
      · exact h2 y hy
def gMin : List D → Option D
  | [.lst l] => match ints? l with
    | some (a :: ns) => some (.int (minI (a :: ns)))
    | _ => none
  | _ => none
def gMax : List D → Option D
  | [.lst l] => match ints? l with
    | some (a :: ns) => some (.int (maxI (a :: ns)))
    | _ => none
  | _ => none
/-- ints in order -/
def insI (a : Int) : List Int → List Int
  | [] => [a]
  | b :: l => if a ≤ b then a :: b :: l else b :: insI a l
def sortI : List Int → List Int
  | [] => []
  | a :: l => insI a (sortI l)
theorem insI_perm (a : Int) : ∀ l : List Int, (insI a l).Perm (a :: l)
  | [] => .refl _
  | b :: l => by
    unfold insI
    split
    · exact .refl _
    · exact ((insI_perm a l).cons b).trans (.swap a b l)
theorem sortI_perm : ∀ l : List Int, (sortI l).Perm l
  | [] => .refl _
  | a :: l => (insI_perm a (sortI l)).trans ((sortI_perm l).cons a)
theorem insI_sorted (a : Int) : ∀ l : List Int, l.Pairwise (· ≤ ·) → (insI a l).Pairwise (· ≤ ·)
  | [], _ => by simp [insI]
  | b :: l, h => by
    obtain ⟨h1, h2⟩ := List.pairwise_cons.mp h
    unfold insI
    split
    · rename_i z
      refine List.pairwise_cons.mpr ⟨fun y hy => ?_, h⟩
      rcases List.mem_cons.mp hy with rfl | hy
      · exact z
      · exact Int.le_trans z (h1 y hy)
    · rename_i z
      refine List.pairwise_cons.mpr ⟨fun y hy => ?_, insI_sorted a l h2⟩
      rcases List.mem_cons.mp ((insI_perm a l).mem_iff.mp hy) with rfl | hy
      · omega
      · exact h1 y hy
theorem sortI_sorted : ∀ l : List Int, (sortI l).Pairwise (· ≤ ·)
  | [] => .nil
  | a :: l => insI_sorted a _ (sortI_sorted l)
theorem sortI_eq {l m : List Int} (h : m.Perm l) (hs : m.Pairwise (· ≤ ·)) : m = sortI l :=
  List.Perm.eq_of_pairwise (fun _ _ _ _ a b => Int.le_antisymm a b) hs (sortI_sorted l) (h.trans (sortI_perm l).symm)
def gSorted : List D → Option D
  | [.lst l] => (ints? l).map fun ns => .lst ((sortI ns).map D.int)
  | _ => none
def gList : List D → Option D
  | [.lst l] => some (.lst l)
  | [.tup l] => some (.lst l)
  | [.scr l] => some (.lst (l.map D.int))
  | _ => none
def gTuple : List D → Option D
  | [.lst l] => some (.tup l)
  | [.tup l] => some (.tup l)
  | _ => none
section
variable {X : Cx}
theorem cq_abs : CallQ X (.builtin "abs") gAbs := by
  refine ⟨_, call_abs, fun ds vs H Hf ρ S Q d hr w e q => ?_⟩
  unfold gAbs at e
  split at e
  · rename_i i
    cases e
    obtain ⟨x, rfl, wa⟩ := dws1 w
    have wa : x = .int i := wa
    exact ⟨i, by rw [wa], q _ _ _ _ hr (Tr.refl _ _ _) rfl⟩
  · cases e
theorem cq_max2 (hc : X.calm = true) : CallQ X (.builtin "max") gMax2 := by
  refine ⟨_, call_max2 hc, fun ds vs H Hf ρ S Q d hr w e q => ?_⟩
  unfold gMax2 at e
  split at e
  · rename_i i j
    cases e
    obtain ⟨x, y, rfl, wa, wb⟩ := dws2 w
    have wa : x = .int i := wa
    have wb : y = .int j := wb
    exact ⟨i, j, by rw [wa, wb], q _ _ _ _ hr (Tr.refl _ _ _) rfl⟩
  · cases e
theorem cq_min2 (hc : X.calm = true) : CallQ X (.builtin "min") gMin2 := by
  refine ⟨_, call_min2 hc, fun ds vs H Hf ρ S Q d hr w e q => ?_⟩
  unfold gMin2 at e
  split at e
  · rename_i i j
    cases e
    obtain ⟨x, y, rfl, wa, wb⟩ := dws2 w
    have wa : x = .int i := wa
    have wb : y = .int j := wb
    exact ⟨i, j, by rw [wa, wb], q _ _ _ _ hr (Tr.refl _ _ _) rfl⟩
  · cases e
theorem cq_int : CallQ X (.type "int") gInt := by
  refine ⟨_, call_int1, fun ds vs H Hf ρ S Q d hr w e q => ?_⟩
  unfold gInt at e
  split at e
  · rename_i i
    cases e
    obtain ⟨x, rfl, wa⟩ := dws1 w
    have wa : x = .int i := wa
    exact .inl ⟨i, by rw [wa], q _ _ _ _ hr (Tr.refl _ _ _) rfl⟩
  · rename_i i
    cases e
    obtain ⟨x, rfl, wa⟩ := dws1 w
    have wa : x = .bl i := wa
    exact .inr ⟨i, by rw [wa], q _ _ _ _ hr (Tr.refl _ _ _) rfl⟩
  · cases e
theorem cq_len : CallQ X (.builtin "len") gLen := by
  refine ⟨_, call_len, fun ds vs H Hf ρ S Q d hr w e q => ?_⟩
  unfold gLen at e
  split at e
  · rename_i l
    cases e
    obtain ⟨x, rfl, wa⟩ := dws1 w
    obtain ⟨a, vs, rfl, _, h1, h2⟩ := wa
    exact ⟨_, l.length, rfl, .inl ⟨vs, SqL.of h1, h2.length⟩, q _ _ _ _ hr (Tr.refl _ _ _) rfl⟩
  · rename_i l
    cases e
    obtain ⟨x, rfl, wa⟩ := dws1 w
    obtain ⟨a, vs, rfl, h1, h2⟩ := (show Dt X.K Hf ρ (.tup l) x from wa)
    exact ⟨_, l.length, rfl, .inr ⟨vs, hr.sub.sqT h1, h2.length⟩, q _ _ _ _ hr (Tr.refl _ _ _) rfl⟩
  · rename_i s
    split at e
    · rename_i hc
      cases e
      obtain ⟨x, rfl, wa⟩ := dws1 w
      have wa : x = .str s := wa
      exact ⟨_, s.length, rfl, by rw [wa]; exact ⟨hc, rfl⟩, q _ _ _ _ hr (Tr.refl _ _ _) rfl⟩
    · cases e
  · cases e
theorem dw_ints {H Hf : Hp} {ρ : List Addr} {l : List D} {ns : List Int} {x : V} (w : Dw X.K H Hf ρ (.lst l) x) (h : ints? l = some ns) : ∃ a, x = .ref a ∧ SqL X.K H a (ns.map V.int) := by
  obtain ⟨a, vs, rfl, _, h1, h2⟩ := w
  rw [ints?_eq h] at h2
  rw [h2.ints] at h1
  exact ⟨a, rfl, SqL.of h1⟩
theorem cq_sum (hc : X.calm = true) : CallQ X (.builtin "sum") gSum := by
  refine ⟨_, cr_sum hc, fun ds vs H Hf ρ S Q d hr w e q => ?_⟩
  unfold gSum at e
  split at e
  · rename_i l
    simp only [Option.map_eq_some_iff] at e
    obtain ⟨ns, e1, rfl⟩ := e
    obtain ⟨x, rfl, wa⟩ := dws1 w
    obtain ⟨a, rfl, h⟩ := dw_ints wa e1
    exact ⟨a, ns, rfl, h, q _ _ _ _ hr (Tr.refl _ _ _) rfl⟩
  · cases e
theorem dw_bls {H Hf : Hp} {ρ : List Addr} {l : List D} {ns : List Bool} {x : V} (w : Dw X.K H Hf ρ (.lst l) x) (h : bls? l = some ns) : ∃ a, x = .ref a ∧ SqL X.K H a (ns.map V.bl) := by
  obtain ⟨a, vs, rfl, _, h1, h2⟩ := w
  rw [bls?_eq h] at h2
  rw [h2.bls] at h1
  exact ⟨a, rfl, SqL.of h1⟩
theorem cq_any (hc : X.calm = true) : CallQ X (.builtin "any") gAny := by
  refine ⟨_, cr_any hc, fun ds vs H Hf ρ S Q d hr w e q => ?_⟩
  unfold gAny at e
  split at e
  · rename_i l
    simp only [Option.map_eq_some_iff] at e
    obtain ⟨ns, e1, rfl⟩ := e
    obtain ⟨x, rfl, wa⟩ := dws1 w
    obtain ⟨a, rfl, h⟩ := dw_bls wa e1
    exact ⟨a, ns, rfl, h, q _ _ _ _ hr (Tr.refl _ _ _) rfl⟩
  · cases e
theorem cq_all (hc : X.calm = true) : CallQ X (.builtin "all") gAll := by
  refine ⟨_, cr_all hc, fun ds vs H Hf ρ S Q d hr w e q => ?_⟩
  unfold gAll at e
  split at e
  · rename_i l
    simp only [Option.map_eq_some_iff] at e
    obtain ⟨ns, e1, rfl⟩ := e
    obtain ⟨x, rfl, wa⟩ := dws1 w
    obtain ⟨a, rfl, h⟩ := dw_bls wa e1
    exact ⟨a, ns, rfl, h, q _ _ _ _ hr (Tr.refl _ _ _) rfl⟩
  · cases e
theorem cq_min (hc : X.calm = true) : CallQ X (.builtin "min") gMin := by
  refine ⟨_, cr_min hc, fun ds vs H Hf ρ S Q d hr w e q => ?_⟩
  unfold gMin at e
  split at e
  · rename_i l
    split at e
    · rename_i b ns e1
      cases e
      obtain ⟨x, rfl, wa⟩ := dws1 w
      obtain ⟨a, rfl, h⟩ := dw_ints wa e1
      refine ⟨a, _, rfl, h, by simp, fun m h1 h2 => ?_⟩
      obtain ⟨k1, k2⟩ := minI_spec (b :: ns) (by simp)
      rw [show m = minI (b :: ns) from Int.le_antisymm (h2 _ k1) (k2 _ h1)]
      exact q _ _ _ _ hr (Tr.refl _ _ _) rfl
    · cases e
  · cases e
theorem cq_max (hc : X.calm = true) : CallQ X (.builtin "max") gMax := by
  refine ⟨_, cr_max hc, fun ds vs H Hf ρ S Q d hr w e q => ?_⟩
  unfold gMax at e
  split at e
  · rename_i l
    split at e
    · rename_i b ns e1
      cases e
      obtain ⟨x, rfl, wa⟩ := dws1 w
      obtain ⟨a, rfl, h⟩ := dw_ints wa e1
      refine ⟨a, _, rfl, h, by simp, fun m h1 h2 => ?_⟩
      obtain ⟨k1, k2⟩ := maxI_spec (b :: ns) (by simp)
      rw [show m = maxI (b :: ns) from Int.le_antisymm (k2 _ h1) (h2 _ k1)]
      exact q _ _ _ _ hr (Tr.refl _ _ _) rfl
    · cases e
  · cases e
theorem cq_sorted : CallQ X (.builtin "sorted") gSorted := by
  refine ⟨_, cr_sortedI, fun ds vs H Hf ρ S Q d hr w e q => ?_⟩
  unfold gSorted at e
  split at e
  · rename_i l
    simp only [Option.map_eq_some_iff] at e
    obtain ⟨ns, e1, rfl⟩ := e
    obtain ⟨x, rfl, wa⟩ := dws1 w
    obtain ⟨a, rfl, h⟩ := dw_ints wa e1
    refine ⟨a, ns, rfl, h, fun ns' p hp hs hn => ?_⟩
    rw [sortI_eq hp hs]
    exact new_ans (d := .lst ((sortI ns).map D.int)) hr hn (fun Hf' ex hq => ⟨p, _, rfl, hq, Dts.ofInts _⟩) q
  · cases e
theorem cq_list : CallQ X (.type "list") gList := by
  refine ⟨_, call_list_of, fun ds vs H Hf ρ S Q d hr w e q => ?_⟩
  unfold gList at e
  split at e
  · rename_i l
    cases e
    obtain ⟨x, rfl, wa⟩ := dws1 w
    obtain ⟨a, vs, rfl, _, h1, h2⟩ := wa
    refine ⟨a, vs, rfl, .inl (SqL.of h1), fun p hp => ?_⟩
    exact new_ans (d := .lst l) hr hp (fun Hf' ex hq => ⟨p, _, rfl, hq, h2.mono ex (Pre.refl _)⟩) q
  · rename_i l
    cases e
    obtain ⟨x, rfl, wa⟩ := dws1 w
    obtain ⟨a, vs, rfl, h1, h2⟩ := (show Dt X.K Hf ρ (.tup l) x from wa)
    refine ⟨a, vs, rfl, .inr (hr.sub.sqT h1), fun p hp => ?_⟩
    exact new_ans (d := .lst l) hr hp (fun Hf' ex hq => ⟨p, _, rfl, hq, h2.mono ex (Pre.refl _)⟩) q
  · rename_i l
    cases e
    obtain ⟨x, rfl, wa⟩ := dws1 w
    obtain ⟨a, rfl, h1⟩ := (show Dt X.K Hf ρ (.scr l) x from wa)
    refine ⟨a, _, rfl, .inl (hr.sub.sqL h1), fun p hp => ?_⟩
    exact new_ans (d := .lst (l.map D.int)) hr hp (fun Hf' ex hq => ⟨p, _, rfl, hq, Dts.ofInts _⟩) q
  · cases e
theorem cq_tuple : CallQ X (.type "tuple") gTuple := by
  refine ⟨_, call_tuple_of, fun ds vs H Hf ρ S Q d hr w e q => ?_⟩
  unfold gTuple at e
  split at e
  · rename_i l
    cases e
    obtain ⟨x, rfl, wa⟩ := dws1 w
    obtain ⟨a, vs, rfl, _, h1, h2⟩ := wa
    refine ⟨a, vs, rfl, .inl ⟨SqL.of h1, fun p hp => ?_⟩⟩
    exact new_ans (d := .tup l) hr hp (fun Hf' ex hq => ⟨p, _, rfl, SqT.of hq, h2.mono ex (Pre.refl _)⟩) q
  · rename_i l
    cases e
    obtain ⟨x, rfl, wa⟩ := dws1 w
    obtain ⟨a, vs, rfl, h1, h2⟩ := (show Dt X.K Hf ρ (.tup l) x from wa)
    exact ⟨a, vs, rfl, .inr ⟨hr.sub.sqT h1, q _ _ _ _ hr (Tr.refl _ _ _) ⟨a, vs, rfl, h1, h2⟩⟩⟩
  · cases e
end
/-! ### isinstance with a built-in type -/
def tyName : D → Option String
  | .non => some "NoneType"
  | .bl _ => some "bool"
  | .int _ => some "int"
  | .str _ => some "str"
  | .tup _ => some "tuple"
  | .lst _ => some "list"
  | .dct _ => some "dict"
  | _ => none
/-- whether the type named a is one of the type named b -/
def isTy (a b : String) : Option Bool :=
  if b = "int" then some (a == "int" || a == "bool") else if b = "bool" then some (a == "bool") else if b = "str" then some (a == "str") else if b = "tuple" then some (a == "tuple") else if b = "list" then some (a == "list") else none
def gIsi : List D → Option D
  | [d, .ty b] => match tyName d with
    | some a => (isTy a b).map D.bl
    | none => none
  | _ => none
theorem kit_all : (["NoneType", "bool", "int", "str", "tuple", "list", "dict"].all fun a => ["int", "bool", "str", "tuple", "list"].all fun b => decide (kitB a b = isTy a b)) = true := by decide +kernel
theorem isTy_b {a b : String} {r : Bool} (h : isTy a b = some r) : b ∈ ["int", "bool", "str", "tuple", "list"] := by
  unfold isTy at h
  split at h
  · rename_i e; rw [e]; simp
  · split at h
    · rename_i e; rw [e]; simp
    · split at h
      · rename_i e; rw [e]; simp
      · split at h
        · rename_i e; rw [e]; simp
        · split at h
          · rename_i e; rw [e]; simp
          · cases h
theorem tyName_a {d : D} {a : String} (h : tyName d = some a) : a ∈ ["NoneType", "bool", "int", "str", "tuple", "list", "dict"] := by
  cases d <;> cases h <;> simp
theorem dw_ty {K : PySem.W.Frag} {H Hf : Hp} {ρ : List Addr} {S : Store} {d : D} {x : V} {a : String} (hr : HR K H Hf ρ S) (w : Dw K H Hf ρ d x) (h : tyName d = some a) : TyX K H x (.type a) := by
  cases d with
  | non => cases h; have w : x = .non := w; subst w; exact .base .non
  | bl b => cases h; have w : x = .bl b := w; subst w; exact .base (.bl b)
  | int b => cases h; have w : x = .int b := w; subst w; exact .base (.int b)
  | str b => cases h; have w : x = .str b := w; subst w; exact .base (.str b)
  | tup l =>
    cases h
    obtain ⟨p, vs, rfl, h1, _⟩ := (show Dt K Hf ρ (.tup l) x from w)
    rcases h1 with (h1 | ⟨o, h1⟩) | ⟨o, its, n, h1, h2, _⟩
    · exact .base (.tup (hr.sub _ _ h1))
    · exact .fTuple (hr.sub _ _ h1)
    · exact .kTuple h1 h2
  | lst l =>
    cases h
    obtain ⟨p, vs, rfl, _, h1, _⟩ := w
    exact .base (.lst h1)
  | dct l =>
    cases h
    obtain ⟨p, vs, rfl, _, h1, _⟩ := w
    rcases h1 with h1 | ⟨o, h1⟩
    · exact .base (.dK h1)
    · exact .fDict h1
  | ref l => cases h
  | hd l => cases h
  | scr l => cases h
  | ty l => cases h
theorem cq_isi {X : Cx} : CallQ X (.builtin "isinstance") gIsi := by
  refine ⟨_, call_isi, fun ds vs H Hf ρ S Q d hr w e q => ?_⟩
  unfold gIsi at e
  split at e
  · rename_i d0 b
    split at e
    · rename_i a ea
      simp only [Option.map_eq_some_iff] at e
      obtain ⟨r, e1, rfl⟩ := e
      obtain ⟨x, y, rfl, wa, wb⟩ := dws2 w
      have wb : y = .ty b := wb
      subst wb
      refine ⟨x, .ty b, .type a, .type b, r, rfl, .ty b, dw_ty hr wa ea, kit_ty ?_, q _ _ _ _ hr (Tr.refl _ _ _) rfl⟩
      have z := List.all_eq_true.mp (List.all_eq_true.mp kit_all a (tyName_a ea)) b (isTy_b e1)
      rw [of_decide_eq_true z]
      exact e1
    · cases e
  · cases e

/-! ### subscripts, slices -/
def IxQ (X : Cx) (g : D → D → Option D) : Prop := ∃ r, IxR X r ∧
  ∀ a b x y H Hf ρ S Q d, HR X.K H Hf ρ S → Dw X.K H Hf ρ a x → Dw X.K H Hf ρ b y → g a b = some d →
    (∀ v H' Hf' ρ', HR X.K H' Hf' ρ' S → Tr H Hf ρ H' Hf' ρ' → Dt X.K Hf' ρ' d v → Q v H') → r x y H Q
def gIx : D → D → Option D
  | .lst l, .int i => atI l i
  | .tup l, .int i => atI l i
  | _, _ => none
theorem Dts.atI {K : PySem.W.Frag} {Hf : Hp} {ρ : List Addr} {l : List D} {vs : List V} {i : Int} {d : D} (h : Dts K Hf ρ l vs) (e : L2.atI l i = some d) : ∃ v, L2.atI vs i = some v ∧ Dt K Hf ρ d v := by
  unfold L2.atI at e ⊢
  rw [← h.length]
  cases z : ixN l.length i with
  | none => rw [z] at e; cases e
  | some j =>
    rw [z] at e
    exact h.get e
section
variable {X : Cx} {B : Gr} {W : WX} {pos : Pos} {a b : Expr} {fa fb : FE}
theorem ixq : IxQ X gIx := by
  refine ⟨_, ix_list.or ix_tup, fun a b x y H Hf ρ S Q d hr wa wb e q => ?_⟩
  unfold gIx at e
  split at e
  · rename_i l i
    obtain ⟨p, vs, rfl, _, h1, h2⟩ := wa
    have wb : y = .int i := wb
    obtain ⟨v, k1, k2⟩ := h2.atI e
    exact .inl ⟨p, vs, i, v, rfl, wb, SqL.of h1, k1, q _ _ _ _ hr (Tr.refl _ _ _) k2⟩
  · rename_i l i
    obtain ⟨p, vs, rfl, h1, h2⟩ := (show Dt X.K Hf ρ (.tup l) x from wa)
    have wb : y = .int i := wb
    obtain ⟨v, k1, k2⟩ := h2.atI e
    exact .inr ⟨p, vs, i, v, rfl, wb, hr.sub.sqT h1, k1, q _ _ _ _ hr (Tr.refl _ _ _) k2⟩
  · cases e
theorem q_ix (hs : PlainIx b) (ha : QR X B W a fa) (hb : QR X B W b fb) : QE X B W (.Subscript a b pos) (fOp gIx fa fb) := by
  obtain ⟨r, h1, h2⟩ := (ixq : IxQ X gIx)
  obtain ⟨ta, a1, a2⟩ := ha
  obtain ⟨tb, b1, b2⟩ := hb
  exact ⟨_, pe_ix h1 a1 b1 hs, q_two a2 b2 h2⟩
end
end DL

end

section
set_option autoImplicit false
set_option autoImplicit false
namespace DL
open PySem PySem.Spec PyProof.Rows L2

/-- around a block -/
structure Cc (X : Cx) (W : WX) : Prop where
  tk : Takes X W
  po : PassesOwn (model X.prog X.w) X.A X.env X.xe
  calm : X.calm = true
  kd : X.env.scope.kind = .function
  nd : X.N.Nodup
/-- a plain local name -/
structure Ll (X : Cx) (i : Nat) (x : Str) : Prop where
  ix : X.N[i]? = some x
  loc : X.env.scope.names.lookup x = some .local
theorem Ll.lr {X : Cx} {i : Nat} {x : Str} (h : Ll X i x) (nd : X.N.Nodup) : Lr X i x := ⟨nd, h.ix, .inl h.loc, .inr h.loc⟩

/-! ### what a store does to the relation -/
section
variable {K : PySem.W.Frag} {B : Gr} {E : Env} {S : Store} {σ : L2.St} {H Hf : Hp} {ρ : List Addr}
theorem Rel.set (r : Rel K B E S σ H Hf ρ) {d : D} {v : V} (i : Nat) (h : Dt K Hf ρ d v) : Rel K B (E.set i (some (.fz d))) S (σ.set i (some v)) H Hf ρ := by
  refine ⟨r.hr, r.tr, by simp [r.len], fun j s e => ?_, fun j k a d1 d2 e1 e2 e3 e4 => ?_⟩
  · by_cases hj : i = j
    · subst hj
      rw [List.getElem?_set] at e
      split at e
      · split at e
        · rename_i h2
          cases e
          refine ⟨v, ?_, h⟩
          rw [List.getElem?_set_self (by rw [← r.len]; exact h2)]
        · cases e
      · rename_i h3; exact absurd rfl h3
    · rw [List.getElem?_set_ne hj] at e
      rw [List.getElem?_set_ne hj]
      exact r.sl j s e
  · have ne : ∀ (j : Nat) d, (E.set i (some (.fz d)))[j]? = some (some (.own d)) → False ∨ i ≠ j := fun j d e => by
      by_cases hj : i = j
      · subst hj
        rw [List.getElem?_set] at e
        split at e
        · split at e
          · cases e
          · cases e
        · rename_i h3; exact absurd rfl h3
      · exact .inr hj
    have n1 : i ≠ j := by
      intro hj; subst hj
      rw [List.getElem?_set] at e1
      split at e1
      · split at e1 <;> cases e1
      · rename_i h3; exact h3 rfl
    have n2 : i ≠ k := by
      intro hj; subst hj
      rw [List.getElem?_set] at e2
      split at e2
      · split at e2 <;> cases e2
      · rename_i h3; exact h3 rfl
    rw [List.getElem?_set_ne n1] at e1 e3
    rw [List.getElem?_set_ne n2] at e2 e4
    exact r.dis j k a d1 d2 e1 e2 e3 e4
theorem get_set_own {E : Env} {i j : Nat} {x : Option Sl} {y : Sl} (h : (E.set i x)[j]? = some (some y)) : (i = j ∧ x = some y ∧ i < E.length) ∨ (i ≠ j ∧ E[j]? = some (some y)) := by
  by_cases hj : i = j
  · subst hj
    rw [List.getElem?_set] at h
    split at h
    · split at h
      · rename_i h2; cases h; exact .inl ⟨rfl, rfl, h2⟩
      · cases h
    · rename_i h3; exact absurd rfl h3
  · rw [List.getElem?_set_ne hj] at h
    exact .inr ⟨hj, h⟩
/-- a name gets a thing of its own -/
theorem Rel.setOwn (r : Rel K B E S σ H Hf ρ) {d : D} {p : Addr} (i : Nat) (h0 : B.H0 p = none) (hf : Hf p = none) (hn : p ∉ ρ) (o : OwnAt K H Hf ρ p d)
    (hd : ∀ (j : Nat) e, E[j]? = some (some (.own e)) → σ[j]? ≠ some (some (.ref p))) : Rel K B (E.set i (some (.own d))) S (σ.set i (some (.ref p))) H Hf ρ := by
  refine ⟨r.hr, r.tr, by simp [r.len], fun j s e => ?_, fun j k a d1 d2 e1 e2 e3 e4 => ?_⟩
  · rcases get_set_own e with ⟨rfl, e, hl⟩ | ⟨hj, e⟩
    · cases e
      refine ⟨p, ?_, h0, hf, hn, o⟩
      rw [List.getElem?_set_self (by rw [← r.len]; exact hl)]
    · rw [List.getElem?_set_ne hj]
      exact r.sl j s e
  · rcases get_set_own e1 with ⟨rfl, x1, hl⟩ | ⟨hj, e1⟩
    · rcases get_set_own e2 with ⟨rfl, x2, hl2⟩ | ⟨hk, e2⟩
      · rfl
      · rw [List.getElem?_set_self (by rw [← r.len]; exact hl)] at e3
        rw [List.getElem?_set_ne hk] at e4
        cases e3
        exact absurd e4 (hd k _ e2)
    · rcases get_set_own e2 with ⟨rfl, x2, hl2⟩ | ⟨hk, e2⟩
      · rw [List.getElem?_set_self (by rw [← r.len]; exact hl2)] at e4
        rw [List.getElem?_set_ne hj] at e3
        cases e4
        exact absurd e3 (hd j _ e1)
      · rw [List.getElem?_set_ne hj] at e3
        rw [List.getElem?_set_ne hk] at e4
        exact r.dis j k a d1 d2 e1 e2 e3 e4
/-- a name is forgotten -/
theorem Rel.drop (r : Rel K B E S σ H Hf ρ) (i : Nat) : Rel K B (E.set i none) S σ H Hf ρ := by
  refine ⟨r.hr, r.tr, by simp [r.len], fun j s e => ?_, fun j k a d1 d2 e1 e2 e3 e4 => ?_⟩
  · rcases get_set_own e with ⟨rfl, e, hl⟩ | ⟨hj, e⟩
    · cases e
    · exact r.sl j s e
  · rcases get_set_own e1 with ⟨rfl, x1, hl⟩ | ⟨hj, e1⟩
    · cases x1
    · rcases get_set_own e2 with ⟨rfl, x2, hl2⟩ | ⟨hk, e2⟩
      · cases x2
      · exact r.dis j k a d1 d2 e1 e2 e3 e4
/-- what is one's own changes -/
theorem Rel.updOwn (r : Rel K B E S σ H Hf ρ) {i : Nat} {a : Addr} {d d' : D} {o : HO} (e : E[i]? = some (some (.own d))) (hs : σ[i]? = some (some (.ref a))) (h0 : B.H0 a = none) (hf : Hf a = none) (hn : a ∉ ρ)
    (x : OwnAt K (upd H a o) Hf ρ a d') : Rel K B (E.set i (some (.own d'))) S σ (upd H a o) Hf ρ := by
  refine ⟨r.hr.own hf hn, ⟨r.tr.hf, r.tr.pre, fun b u hb hbn => ?_, fun b hb => r.tr.fresh b hb, r.tr.newh, fun b hb => ?_⟩, by simp [r.len], fun j s ej => ?_, fun j k b d1 d2 e1 e2 e3 e4 => ?_⟩
  · have : b ≠ a := fun z => by subst z; rw [h0] at hb; cases hb
    rw [upd_ne this]; exact r.tr.keep b u hb hbn
  · by_cases z : b = a
    · subst z; rw [upd_same]; simp
    · rw [upd_ne z]; exact r.tr.alive b hb
  · rcases get_set_own ej with ⟨rfl, ej, hl⟩ | ⟨hj, ej⟩
    · cases ej
      exact ⟨a, hs, h0, hf, hn, x⟩
    · have q := r.sl j s ej
      cases s with
      | fz d => exact q
      | own d2 =>
        obtain ⟨b, q1, q2, q3, q4, q5⟩ := q
        have : b ≠ a := fun z => hj (by subst z; exact r.dis i j _ d d2 e ej hs q1)
        refine ⟨b, q1, q2, q3, q4, ?_⟩
        cases d2 with
        | lst l => obtain ⟨vs, k1, k2⟩ := q5; exact ⟨vs, by rw [upd_ne this]; exact k1, k2⟩
        | dct l => obtain ⟨vs, k1, k2⟩ := q5; exact ⟨vs, by rw [upd_ne this]; exact k1, k2⟩
        | _ => exact q5.elim
  · have a1 : ∃ d1, E[j]? = some (some (.own d1)) := by
      rcases get_set_own e1 with ⟨rfl, x1, hl⟩ | ⟨hj, e1⟩
      · exact ⟨d, e⟩
      · exact ⟨_, e1⟩
    have a2 : ∃ d1, E[k]? = some (some (.own d1)) := by
      rcases get_set_own e2 with ⟨rfl, x1, hl⟩ | ⟨hj, e2⟩
      · exact ⟨d, e⟩
      · exact ⟨_, e2⟩
    obtain ⟨_, a1⟩ := a1
    obtain ⟨_, a2⟩ := a2
    exact r.dis j k b _ _ a1 a2 e3 e4
end
/-- from now on shared -/
def frz (E : Env) (i : Nat) : Env := match E[i]? with
  | some (some (.own (.lst l))) => E.set i (some (.fz (.lst l)))
  | _ => E
theorem Rel.freeze {K : PySem.W.Frag} {B : Gr} {E : Env} {S : Store} {σ : L2.St} {H Hf : Hp} {ρ : List Addr} (r : Rel K B E S σ H Hf ρ) (i : Nat) : ∃ Hf', Ext Hf Hf' ∧ Rel K B (frz E i) S σ H Hf' ρ := by
  unfold frz
  split
  · rename_i d0 e
    obtain ⟨d, hd⟩ : ∃ d, d = D.lst d0 := ⟨_, rfl⟩
    rw [← hd] at e ⊢
    obtain ⟨a, h1, h2, h3, h4, h5⟩ := r.sl i _ e
    obtain ⟨u, hu⟩ := h5.there
    have ex : Ext Hf (upd Hf a u) := fun b z e => by
      have : b ≠ a := fun q => by subst q; rw [h3] at e; cases e
      rw [upd_ne this]; exact e
    refine ⟨upd Hf a u, ex, r.hr.freeze h3 hu h4, ⟨r.tr.hf.trans ex, r.tr.pre, r.tr.keep, fun b hb => ?_, r.tr.newh, r.tr.alive⟩, by simp [r.len], fun j s ej => ?_, fun j k b d1 d2 e1 e2 e3 e4 => ?_⟩
    · by_cases z : b = a
      · subst z; exact .inr h2
      · rw [upd_ne z] at hb; exact r.tr.fresh b hb
    · rcases get_set_own ej with ⟨rfl, ej, hl⟩ | ⟨hj, ej⟩
      · cases ej
        refine ⟨.ref a, h1, ?_⟩
        subst hd
        obtain ⟨vs, k1, k2⟩ := h5
        rw [k1] at hu; cases hu
        exact ⟨a, vs, rfl, upd_same, Dts.mono ex (Pre.refl _) _ _ k2⟩
      · have q := r.sl j s ej
        cases s with
        | fz d =>
          obtain ⟨u, q1, q2⟩ := q
          exact ⟨u, q1, q2.mono ex (Pre.refl _)⟩
        | own d2 =>
          obtain ⟨b, q1, q2, q3, q4, q5⟩ := q
          have : b ≠ a := fun z => hj (by subst z; exact r.dis i j _ d d2 e ej h1 q1)
          refine ⟨b, q1, q2, by rw [upd_ne this]; exact q3, q4, ?_⟩
          cases d2 with
          | lst l => obtain ⟨vs, k1, k2⟩ := q5; exact ⟨vs, k1, Dts.mono ex (Pre.refl _) _ _ k2⟩
          | dct l => obtain ⟨vs, k1, k2⟩ := q5; exact ⟨vs, k1, Dks.mono ex (Pre.refl _) _ _ k2⟩
          | _ => exact q5.elim
    · rcases get_set_own e1 with ⟨rfl, x1, hl⟩ | ⟨hj, e1⟩
      · cases x1
      · rcases get_set_own e2 with ⟨rfl, x2, hl2⟩ | ⟨hk, e2⟩
        · cases x2
        · exact r.dis j k b d1 d2 e1 e2 e3 e4
  · exact ⟨Hf, Ext.refl _, r⟩

/-! ### statements -/
def fSkip : FS := fun _ E S => .nx E S
def fSeq (f g : FS) : FS := fun n E S => match f n E S with
  | .nx E' S' => g n E' S'
  | r => r
def fFrz (i : Nat) (f : FS) : FS := fun n E S => f n (frz E i) S
def fSet (i : Nat) (f : FE) : FS := fun n E S => match f n E S with
  | .ok d S1 => .nx (E.set i (some (.fz d))) S1
  | .exc x S1 => .ex x E S1
  | .stk => .stk
def fSetO (i : Nat) (f : FE) : FS := fun n E S => match f n E S with
  | .ok d S1 => .nx (E.set i (some (.own d))) S1
  | .exc x S1 => .ex x E S1
  | .stk => .stk
def fRet (f : FE) : FS := fun n E S => match f n E S with
  | .ok d S1 => .rt d S1
  | .exc x S1 => .ex x E S1
  | .stk => .stk
/-- a new list is handed back, to be held by several -/
def fRetH (f : FE) : FS := fun n E S => match f n E S with
  | .ok (.lst l) S1 => .rt (.hd S1.length) (S1 ++ [.lst l])
  | .ok _ _ => .stk
  | .exc x S1 => .ex x E S1
  | .stk => .stk
def fExp (f : FE) : FS := fun n E S => match f n E S with
  | .ok _ S1 => .nx E S1
  | .exc x S1 => .ex x E S1
  | .stk => .stk
def fIfS (c : FT) (f g : FS) : FS := fun n E S => match c n E S with
  | .ok true S1 => f n E S1
  | .ok false S1 => g n E S1
  | .exc x S1 => .ex x E S1
  | .stk => .stk
def fRaise (C : Str) : FS := fun _ E S => .ex ⟨C, none⟩ E S
section
variable {X : Cx} {B : Gr} {W : WX} {pos pos' : Pos} {st : Stmt} {sts : List Stmt} {e : Expr} {f g : FS} {fe : FE} {x : Str} {i : Nat}
theorem ss_nil : QSs X B W [] fSkip := ⟨_, pss_nil, fun n E S σ H Hf ρ Q r p => p σ H Hf ρ r (Ext.refl _) (Pre.refl _)⟩
theorem ss_cons (h1 : QS X B W st f) (h2 : QSs X B W sts g) : QSs X B W (st :: sts) (fSeq f g) := by
  obtain ⟨t, a1, a2⟩ := h1
  obtain ⟨u, b1, b2⟩ := h2
  refine ⟨_, pss_cons a1 b1, fun n E S σ H Hf ρ Q r p => ?_⟩
  refine a2 n E S σ H Hf ρ { Q with nx := u Q } r ?_
  unfold fSeq at p
  cases e1 : f n E S with
  | nx E' S' => rw [e1] at p; exact fun σ' H' Hf' ρ' r' ex pr => b2 n E' S' σ' H' Hf' ρ' Q r' (PostS.mono ex pr p)
  | rt d S' => rw [e1] at p; exact p
  | bk E' S' => rw [e1] at p; exact p
  | ct E' S' => rw [e1] at p; exact p
  | ex x E' S' => rw [e1] at p; exact p
  | stk => rw [e1] at p; exact p
theorem ss_one (h1 : QS X B W st f) : QSs X B W [st] f := by
  obtain ⟨t, a1, a2⟩ := h1
  exact ⟨_, pss_one a1, a2⟩
theorem ss_frz (h : QSs X B W sts f) (i : Nat) : QSs X B W sts (fFrz i f) := by
  obtain ⟨t, a1, a2⟩ := h
  refine ⟨_, a1, fun n E S σ H Hf ρ Q r p => ?_⟩
  obtain ⟨Hf', ex, r'⟩ := r.freeze i
  exact a2 n (frz E i) S σ H Hf' ρ Q r' (PostS.mono ex (Pre.refl _) p)
theorem s_set (l : Lr X i x) (he : QE X B W e fe) (hs : swapsWith e (some (.Name x pos')) pos.line X.env = pure false) : QS X B W (.Assign [.Name x pos'] e pos) (fSet i fe) := by
  obtain ⟨t, h1, h2⟩ := he
  refine ⟨_, ps_set l.nd l.ix l.loc h1 hs l.fn, fun n E S σ H Hf ρ Q r p => h2 n E S σ H Hf ρ _ r ?_⟩
  unfold fSet at p
  cases e1 : fe n E S with
  | stk => rw [e1] at p; exact p
  | exc y S1 => rw [e1] at p; exact fun c od H' Hf' ρ' a b d => p c od σ H' Hf' ρ' (r.step a b) b.hf b.pre d
  | ok d S1 => rw [e1] at p; exact fun v H' Hf' ρ' a b w => p _ _ _ _ ((r.step a b).set i w) b.hf b.pre
theorem set_own {n : Nat} {E : Env} {S : Store} {σ : L2.St} {H Hf : Hp} {ρ : List Addr} {Q : Ends} (r : Rel X.K B E S σ H Hf ρ) (p : PostS X.K W B Hf ρ Q (fSetO i fe n E S)) :
    PostF X.K W σ H Hf ρ (fun x H1 => gName i x σ H1 Q.nx) (fe n E S) := by
  unfold fSetO at p
  cases e1 : fe n E S with
  | stk => rw [e1] at p; exact p
  | exc y S1 => rw [e1] at p; exact fun c od H' Hf' ρ' a b d => p c od σ H' Hf' ρ' (r.step a b) b.hf b.pre d
  | ok d S1 =>
    rw [e1] at p
    intro q H' Hf' ρ' a b n1 n2 n3 o
    have r' := r.step a b
    refine p _ _ _ _ (r'.setOwn i ?_ n2 n3 o fun j e2 ej hj => ?_) b.hf b.pre
    · cases z : B.H0 q with
      | none => rfl
      | some u => exact absurd n1 (r.tr.alive q (by rw [z]; simp))
    · obtain ⟨a2, k1, _, _, _, k5⟩ := r.sl j _ ej
      rw [k1] at hj
      cases hj
      obtain ⟨u, hu⟩ := k5.there
      rw [n1] at hu; cases hu
theorem s_setO (l : Lr X i x) (he : QF X B W e fe) (hs : swapsWith e (some (.Name x pos')) pos.line X.env = pure false) : QS X B W (.Assign [.Name x pos'] e pos) (fSetO i fe) := by
  obtain ⟨t, h1, h2⟩ := he
  exact ⟨_, ps_set l.nd l.ix l.loc h1 hs l.fn, fun n E S σ H Hf ρ Q r p => h2 n E S σ H Hf ρ _ r (set_own r p)⟩
theorem s_ret (he : QE X B W e fe) : QS X B W (.Return (some e) pos) (fRet fe) := by
  obtain ⟨t, h1, h2⟩ := he
  refine ⟨_, ps_ret h1, fun n E S σ H Hf ρ Q r p => h2 n E S σ H Hf ρ _ r ?_⟩
  unfold fRet at p
  cases e1 : fe n E S with
  | stk => rw [e1] at p; exact p
  | exc y S1 => rw [e1] at p; exact fun c od H' Hf' ρ' a b d => p c od σ H' Hf' ρ' (r.step a b) b.hf b.pre d
  | ok d S1 => rw [e1] at p; exact fun v H' Hf' ρ' a b w => p v H' Hf' ρ' a (r.tr.trans b) w
theorem s_retN : QS X B W (.Return none pos) (fRet (fC .non)) :=
  ⟨_, ps_retN, fun n E S σ H Hf ρ Q r p => p .non H Hf ρ r.hr r.tr rfl⟩
theorem s_retH (he : QF X B W e fe) : QS X B W (.Return (some e) pos) (fRetH fe) := by
  obtain ⟨t, h1, h2⟩ := he
  refine ⟨_, ps_ret h1, fun n E S σ H Hf ρ Q r p => h2 n E S σ H Hf ρ _ r ?_⟩
  unfold fRetH at p
  cases e1 : fe n E S with
  | stk => rw [e1] at p; exact p
  | exc y S1 => rw [e1] at p; exact fun c od H' Hf' ρ' a b d => p c od σ H' Hf' ρ' (r.step a b) b.hf b.pre d
  | ok d S1 =>
    rw [e1] at p
    cases d <;> try exact p.elim
    rename_i l
    intro q H' Hf' ρ' a b n1 n2 n3 o
    obtain ⟨vs, o1, o2⟩ := o
    have pre : Pre ρ' (ρ' ++ [q]) := fun n z h => by
      rw [List.getElem?_append_left (List.getElem?_eq_some_iff.mp h).1]; exact h
    have get : ∀ (n : Nat) z, (ρ' ++ [q])[n]? = some z → (n < ρ'.length ∧ ρ'[n]? = some z) ∨ (n = ρ'.length ∧ z = q) := fun n z h => by
      by_cases hn : n < ρ'.length
      · rw [List.getElem?_append_left hn] at h; exact .inl ⟨hn, h⟩
      · rw [List.getElem?_append_right (by omega)] at h
        have h0 : n - ρ'.length = 0 := by
          have := (List.getElem?_eq_some_iff.mp h).1
          simp at this; omega
        rw [h0] at h
        simp at h
        exact .inr ⟨by omega, h.symm⟩
    have tr0 := r.tr.trans b
    refine p (.ref q) H' Hf' (ρ' ++ [q]) ⟨a.sub, by simp [a.len], fun i j z hi hj => ?_, fun n z h => ?_, fun n z c h hc => ?_⟩ ⟨tr0.hf, tr0.pre.trans pre, tr0.keep, tr0.fresh, fun z hz => ?_, tr0.alive⟩ ⟨q, ?_, rfl⟩
    · rcases get i z hi with ⟨_, hi1⟩ | ⟨hi1, ez⟩
      · rcases get j z hj with ⟨_, hj1⟩ | ⟨hj1, ez⟩
        · exact a.nd i j z hi1 hj1
        · rw [ez] at hi1; exact absurd (mem_of_get hi1) n3
      · rcases get j z hj with ⟨_, hj1⟩ | ⟨hj1, _⟩
        · rw [ez] at hj1; exact absurd (mem_of_get hj1) n3
        · omega
    · rcases get n z h with ⟨_, h⟩ | ⟨h, rfl⟩
      · exact a.hd n z h
      · exact n2
    · rcases get n z h with ⟨hn, h⟩ | ⟨rfl, rfl⟩
      · rw [List.getElem?_append_left (by rw [← a.len]; exact hn)] at hc
        have := a.cell n z c h hc
        cases c with
        | lst l => obtain ⟨us, x1, x2⟩ := this; exact ⟨us, x1, x2.mono (Ext.refl _) pre⟩
        | ins C fs => obtain ⟨dx, gs, x1, x2⟩ := this; exact ⟨dx, gs, x1, Dfs.mono (Ext.refl _) pre _ _ x2⟩
      · rw [a.len, List.getElem?_append_right (Nat.le_refl _)] at hc
        simp at hc
        subst hc
        exact ⟨vs, o1, o2.mono (Ext.refl _) pre⟩
    · rcases List.mem_append.mp hz with hz | hz
      · exact tr0.newh z hz
      · have : z = q := by simpa using hz
        subst this
        refine .inr ?_
        cases w : B.H0 z with
        | none => rfl
        | some u => exact absurd n1 (r.tr.alive z (by rw [w]; simp))
    · rw [← a.len, List.getElem?_append_right (Nat.le_refl _)]; simp
theorem s_exp (he : QE X B W e fe) (hs : swapsWith e none pos.line X.env = pure false) : QS X B W (.Expr e pos) (fExp fe) := by
  obtain ⟨t, h1, h2⟩ := he
  refine ⟨_, ps_expr h1 hs, fun n E S σ H Hf ρ Q r p => h2 n E S σ H Hf ρ _ r ?_⟩
  unfold fExp at p
  cases e1 : fe n E S with
  | stk => rw [e1] at p; exact p
  | exc y S1 => rw [e1] at p; exact fun c od H' Hf' ρ' a b d => p c od σ H' Hf' ρ' (r.step a b) b.hf b.pre d
  | ok d S1 => rw [e1] at p; exact fun v H' Hf' ρ' a b w => p _ _ _ _ (r.step a b) b.hf b.pre
theorem s_if {c : Expr} {a b : List Stmt} {ft : FT} (hc : QT X B W c ft) (ha : QSs X B W a f) (hb : QSs X B W b g) : QS X B W (.If c a b pos) (fIfS ft f g) := by
  obtain ⟨tc, c1, c2⟩ := hc
  obtain ⟨ta, a1, a2⟩ := ha
  obtain ⟨tb, b1, b2⟩ := hb
  refine ⟨_, ps_if c1 a1 b1, fun n E S σ H Hf ρ Q r p => c2 n E S σ H Hf ρ _ r ?_⟩
  unfold fIfS at p
  cases e1 : ft n E S with
  | stk => rw [e1] at p; exact p
  | exc y S1 => rw [e1] at p; exact fun c od H' Hf' ρ' a b d => p c od σ H' Hf' ρ' (r.step a b) b.hf b.pre d
  | ok k S1 =>
    rw [e1] at p
    intro H' Hf' ρ' h1 h2
    cases k with
    | true => exact a2 n E S1 σ H' Hf' ρ' Q (r.step h1 h2) (PostS.mono h2.hf h2.pre p)
    | false => exact b2 n E S1 σ H' Hf' ρ' Q (r.step h1 h2) (PostS.mono h2.hf h2.pre p)
/-- an error class of the text, as ValueError's -/
structure ExcC (X : Cx) (x : Str) : Prop where
  gl : Gl X x
  mg : X.mg x = some (.ref (He.ga X.K x))
  ex : PySem.W.excIn X.K (He.ga X.K x) He.veBase "ValueError.__new__" = true
  kp : PySem.W.keepIn X.K (.ref (He.ga X.K x)) = true
  sb : PySem.W.subIn X.K (.ref (He.ga X.K x)) (.type "BaseException") = some true
  ty : PySem.W.typeIn X.K (.ref (He.ga X.K x)) = some (.type "type")
  db : (x == ("__debug__" : Str)) = false
theorem s_raise {m : Str} {j : Nat} {p1 p2 : Pos} (c : ExcC X x) (cc : Cc X W) : QS X B W (.Raise (some (.Call (.Name x p1) [.Constant (.str m) j p2] [] pos')) none pos) (fRaise x) :=
  ⟨_, ps_raise cc.calm cc.tk (pmk_own PySem.F.excBase_ValueError c.ex c.mg c.kp (raises_own c.sb c.ty) c.gl c.db), fun n E S σ H Hf ρ Q r p => p (.ref (He.ga X.K x)) none σ H Hf ρ r (Ext.refl _) (Pre.refl _) ⟨rfl, trivial⟩⟩
end
end DL

end

section
set_option autoImplicit false
set_option autoImplicit false
namespace DL
open PySem PySem.Spec PyProof.Rows L2

/-! ### targets -/
abbrev Tgt := D → Env → Option Env
abbrev Tgts := List D → Env → Option Env
def gN (i : Nat) : Tgt := fun d E => some (E.set i (some (.fz d)))
def gT (g : Tgts) : Tgt := fun d E => match d with
  | .tup l => g l E
  | _ => none
def gNils : Tgts := fun l E => match l with
  | [] => some E
  | _ => none
def gConss (g : Tgt) (gs : Tgts) : Tgts := fun l E => match l with
  | d :: l => (g d E).bind fun E1 => gs l E1
  | _ => none
def QG (X : Cx) (B : Gr) (tg : Expr) (is : List Nat) (g : Tgt) : Prop := ∃ t, PG X tg t ∧
  ∀ d E E' S σ H Hf ρ v Q, Rel X.K B E S σ H Hf ρ → Dt X.K Hf ρ d v → g d E = some E' → (∀ σ', Rel X.K B E' S σ' H Hf ρ → (∀ vs, (∀ i ∈ is, i ∈ vs) → wipe σ' vs = wipe σ vs) → Q σ' H) → t v σ H Q
def QGs (X : Cx) (B : Gr) (tgs : List Expr) (is : List Nat) (g : Tgts) : Prop := ∃ t, PGs X tgs t ∧
  ∀ l E E' S σ H Hf ρ vs Q, Rel X.K B E S σ H Hf ρ → Dts X.K Hf ρ l vs → g l E = some E' → (∀ σ', Rel X.K B E' S σ' H Hf ρ → (∀ ws, (∀ i ∈ is, i ∈ ws) → wipe σ' ws = wipe σ ws) → Q σ' H) → vs.length = l.length ∧ t vs σ H Q
theorem wipe_set {σ : L2.St} {i : Nat} {x : Option V} : ∀ {vs : List Nat}, i ∈ vs → wipe (σ.set i x) vs = wipe σ vs
  | [], h => by cases h
  | v :: vs, h => by
    unfold wipe
    by_cases hv : i ∈ vs
    · rw [wipe_set hv]
    · have e : i = v := by
        rcases List.mem_cons.mp h with h | h
        · exact h
        · exact absurd h hv
      subst e
      have z : ∀ (ws : List Nat) (τ : L2.St), i ∉ ws → wipe (τ.set i x) ws = (wipe τ ws).set i x := by
        intro ws
        induction ws with
        | nil => intro τ _; rfl
        | cons w ws ih =>
          intro τ hw
          unfold wipe
          rw [ih τ fun q => hw (List.mem_cons_of_mem _ q)]
          exact List.set_comm _ _ fun q => hw (by rw [q]; exact List.mem_cons_self)
      rw [z vs σ hv, List.set_set]
section
variable {X : Cx} {B : Gr} {pos : Pos} {x : Str} {i : Nat} {e : Expr} {es : List Expr} {is js : List Nat} {g : Tgt} {gs : Tgts}
theorem g_name (l : Lr X i x) : QG X B (.Name x pos) [i] (gN i) := by
  refine ⟨_, pg_name l.nd l.ix l.loc l.fn, fun d E E' S σ H Hf ρ v Q r w h q => ?_⟩
  cases h
  exact q _ (r.set i w) fun vs hv => wipe_set (hv i (by simp))
theorem gs_nil : QGs X B [] [] gNils := by
  refine ⟨_, pgs_nil, fun l E E' S σ H Hf ρ vs Q r w h q => ?_⟩
  unfold gNils at h
  split at h
  · cases h
    simp only [Dts] at w
    subst w
    exact ⟨rfl, rfl, q σ r fun _ _ => rfl⟩
  · cases h
theorem gs_cons (h1 : QG X B e is g) (h2 : QGs X B es js gs) (hs : (assignEach (e :: es) X.env).map (·.2) = assign e X.env :: (assignEach es X.env).map (·.2)) : QGs X B (e :: es) (is ++ js) (gConss g gs) := by
  obtain ⟨t, a1, a2⟩ := h1
  obtain ⟨u, b1, b2⟩ := h2
  refine ⟨_, pgs_cons a1 b1 hs, fun l E E' S σ H Hf ρ vs Q r w h q => ?_⟩
  unfold gConss at h
  split at h
  · rename_i d l
    simp only [Option.bind_eq_some_iff] at h
    obtain ⟨E1, e1, e2⟩ := h
    simp only [Dts] at w
    obtain ⟨v, rs, rfl, w1, w2⟩ := w
    refine ⟨by rw [List.length_cons, List.length_cons, w2.length], v, rs, rfl, ?_⟩
    refine a2 d E E1 S σ H Hf ρ v _ r w1 e1 fun σ' r' z => ?_
    refine (b2 l E1 E' S σ' H Hf ρ rs Q r' w2 e2 fun σ2 r2 z2 => q σ2 r2 fun ws hw => ?_).2
    rw [z2 ws fun i hi => hw i (List.mem_append_right _ hi), z ws fun i hi => hw i (List.mem_append_left _ hi)]
  · cases h
/-- the number of targets -/
theorem g_tup {k n : Nat} (hc : X.calm = true) (h : QGs X B es is gs) (hl : ∀ l E E', gs l E = some E' → l.length = n) (hn : (assignEach es X.env).length = n) (hst : (assignEach es X.env).findIdx? (·.1) = none) : QG X B (.Tuple es k pos) is (gT gs) := by
  obtain ⟨t, a1, a2⟩ := h
  refine ⟨_, pg_tup hc a1 hn hst, fun d E E' S σ H Hf ρ v Q r w h q => ?_⟩
  unfold gT at h
  split at h
  · rename_i l
    obtain ⟨a, vs, rfl, w1, w2⟩ := (show Dt X.K Hf ρ (.tup l) v from w)
    obtain ⟨x1, x2⟩ := a2 l E E' S σ H Hf ρ vs Q r w2 h q
    exact ⟨a, vs, rfl, r.hr.sub.sqT w1, by rw [x1, hl l E E' h], x2⟩
  · cases h
end
structure GLen (gs : Tgts) (n : Nat) : Prop where
  len : ∀ l E E', gs l E = some E' → l.length = n
theorem gl_nil : GLen gNils 0 := ⟨fun l E E' h => by unfold gNils at h; split at h <;> first | rfl | cases h⟩
theorem gl_cons {g : Tgt} {gs : Tgts} {n : Nat} (h : GLen gs n) : GLen (gConss g gs) (n + 1) := ⟨fun l E E' e => by
  unfold gConss at e
  split at e
  · simp only [Option.bind_eq_some_iff] at e
    obtain ⟨E1, _, e2⟩ := e
    rw [List.length_cons, h.len _ _ _ e2]
  · cases e⟩

/-! ### assignments to several -/
def fAsg (g : Tgt) (f : FE) : FS := fun n E S => match f n E S with
  | .ok d S1 => match g d E with
    | some E1 => .nx E1 S1
    | none => .stk
  | .exc x S1 => .ex x E S1
  | .stk => .stk
def fPar2 (i j : Nat) (f : FA) : FS := fun n E S => match f n E S with
  | .ok [a, b] S1 => .nx ((E.set i (some (.fz a))).set j (some (.fz b))) S1
  | .ok _ _ => .stk
  | .exc x S1 => .ex x E S1
  | .stk => .stk
def fPar3 (i j k : Nat) (f : FA) : FS := fun n E S => match f n E S with
  | .ok [a, b, c] S1 => .nx (((E.set i (some (.fz a))).set j (some (.fz b))).set k (some (.fz c))) S1
  | .ok _ _ => .stk
  | .exc x S1 => .ex x E S1
  | .stk => .stk
section
variable {X : Cx} {B : Gr} {W : WX} {pos : Pos} {fe : FE} {fa : FA}
theorem s_asg {tg e : Expr} {is : List Nat} {g : Tgt} (he : QE X B W e fe) (hg : QG X B tg is g) (hs : swapsWithSole [tg] e pos.line X.env = pure false) (hw : swappedStores [tg] e X.env = pure none)
    (h1 : (assignEach [tg] X.env).map (·.2) = [assign tg X.env]) : QS X B W (.Assign [tg] e pos) (fAsg g fe) := by
  obtain ⟨t, a1, a2⟩ := he
  obtain ⟨u, b1, b2⟩ := hg
  refine ⟨_, ps_asg a1 b1 hs hw h1, fun n E S σ H Hf ρ Q r p => a2 n E S σ H Hf ρ _ r ?_⟩
  unfold fAsg at p
  cases e1 : fe n E S with
  | stk => rw [e1] at p; exact p
  | exc y S1 => rw [e1] at p; exact fun c od H' Hf' ρ' a b d => p c od σ H' Hf' ρ' (r.step a b) b.hf b.pre d
  | ok d S1 =>
    rw [e1] at p
    intro v H' Hf' ρ' a b w
    have p : PostS X.K W B Hf ρ Q (match g d E with | some E1 => .nx E1 S1 | none => .stk) := p
    cases e2 : g d E with
    | none => rw [e2] at p; exact p.elim
    | some E1 =>
      rw [e2] at p
      exact b2 d E E1 S1 σ H' Hf' ρ' v _ (r.step a b) w e2 fun σ' r' _ => p σ' H' Hf' ρ' r' b.hf b.pre
theorem sw2 {env : PySem.Env} {x y : Str} {px py pt pt2 : Pos} {kt k2 : Nat} {a b : Expr} (hk : env.scope.kind = .function) (hx : env.scope.names.lookup x = some .local) (hy : env.scope.names.lookup y = some .local)
    (hne : [x, y].eraseDups.length = 2) (hl : (py.line == px.line) = true) (h1 : ([a, b].any fun | .Starred .. => true | _ => false) = false) (h2 : [a, b].all (foldedForSure 8) = false) (h3 : [a, b].all (constantsAlone 8) = false) :
    swappedStores [.Tuple [.Name x px, .Name y py] kt pt] (.Tuple [a, b] k2 pt2) env = pure (some [x, y]) := by
  have hb : env.blockKind = .function := by unfold PySem.Env.blockKind; rw [hk]; rfl
  have kx : env.kindOf x = some .local := hx
  have ky : env.kindOf y = some .local := hy
  unfold swappedStores
  dsimp only
  generalize hA : List.all [a, b] (foldedForSure 8) = A at *
  generalize hB : List.all [a, b] (constantsAlone 8) = C at *
  subst h2 h3
  rw [if_neg (by rw [hb]; exact Bool.false_ne_true)]
  refine Eq.trans (if_neg (fun z => Bool.false_ne_true (h1.symm.trans z))) ?_
  generalize hF : List.filterMap _ _ = F
  have e : F = [x, y] := by
    rw [← hF]
    have hl0 : ∀ p : Pos, (p.line == (Option.map (fun x => Expr.pos x |>.line) [Expr.Name x px, Expr.Name y py].head?).getD 0) = (p.line == px.line) := fun _ => rfl
    rw [List.filterMap_cons, List.filterMap_cons, List.filterMap_nil]
    dsimp only
    rw [hl0, hl0, kx, ky, hl]
    simp
  subst e
  rw [if_neg (by rw [hne]; exact Bool.false_ne_true), if_neg Bool.false_ne_true, if_neg Bool.false_ne_true]
theorem sw3 {env : PySem.Env} {x y z : Str} {px py pz pt pt2 : Pos} {kt k2 : Nat} {a b c : Expr} (hk : env.scope.kind = .function) (hx : env.scope.names.lookup x = some .local) (hy : env.scope.names.lookup y = some .local) (hz : env.scope.names.lookup z = some .local)
    (hne : [x, y, z].eraseDups.length = 3) (hl : (py.line == px.line) = true) (hl2 : (pz.line == px.line) = true) (h1 : ([a, b, c].any fun | .Starred .. => true | _ => false) = false) (h2 : [a, b, c].all (foldedForSure 8) = false) (h3 : [a, b, c].all (constantsAlone 8) = false) :
    swappedStores [.Tuple [.Name x px, .Name y py, .Name z pz] kt pt] (.Tuple [a, b, c] k2 pt2) env = pure (some [x, y, z]) := by
  have hb : env.blockKind = .function := by unfold PySem.Env.blockKind; rw [hk]; rfl
  have kx : env.kindOf x = some .local := hx
  have ky : env.kindOf y = some .local := hy
  have kz : env.kindOf z = some .local := hz
  unfold swappedStores
  dsimp only
  generalize hA : List.all [a, b, c] (foldedForSure 8) = A at *
  generalize hB : List.all [a, b, c] (constantsAlone 8) = C at *
  subst h2 h3
  rw [if_neg (by rw [hb]; exact Bool.false_ne_true)]
  refine Eq.trans (if_neg (fun z => Bool.false_ne_true (h1.symm.trans z))) ?_
  generalize hF : List.filterMap _ _ = F
  have e : F = [x, y, z] := by
    rw [← hF]
    have hl0 : ∀ p : Pos, (p.line == (Option.map (fun x => Expr.pos x |>.line) [Expr.Name x px, Expr.Name y py, Expr.Name z pz].head?).getD 0) = (p.line == px.line) := fun _ => rfl
    rw [List.filterMap_cons, List.filterMap_cons, List.filterMap_cons, List.filterMap_nil]
    dsimp only
    rw [hl0, hl0, hl0, kx, ky, kz, hl, hl2]
    simp
  subst e
  rw [if_neg (by rw [hne]; exact Bool.false_ne_true), if_neg Bool.false_ne_true, if_neg Bool.false_ne_true]
theorem s_par2 {i j : Nat} {x y : Str} {a b : Expr} {px py pt pt2 : Pos} {kt k2 : Nat} (cc : Cc X W) (lx : Ll X i x) (ly : Ll X j y) (hij : i ≠ j) (ha : QA X B W [a, b] fa)
    (hw : swappedStores [.Tuple [.Name x px, .Name y py] kt pt] (.Tuple [a, b] k2 pt2) X.env = pure (some [x, y]))
    (hs : swapsWithSole [.Tuple [.Name x px, .Name y py] kt pt] (.Tuple [a, b] k2 pt2) pos.line X.env = pure false) :
    QS X B W (.Assign [.Tuple [.Name x px, .Name y py] kt pt] (.Tuple [a, b] k2 pt2) pos) (fPar2 i j fa) := by
  obtain ⟨t, a1, a2⟩ := ha
  refine ⟨_, ps_par cc.calm cc.nd lx.ix ly.ix hij lx.loc ly.loc a1 hw hs, fun n E S σ H Hf ρ Q r p => a2 n E S σ H Hf ρ _ r ?_⟩
  unfold fPar2 at p
  cases e1 : fa n E S with
  | stk => rw [e1] at p; exact p
  | exc y S1 => rw [e1] at p; exact fun c od H' Hf' ρ' a b d => p c od σ H' Hf' ρ' (r.step a b) b.hf b.pre d
  | ok ds S1 =>
    rw [e1] at p
    intro vs H' Hf' ρ' h1 h2 w
    match ds, p, w with
    | [d1, d2], p, w =>
      obtain ⟨v1, r1, rfl, w1, w2⟩ := w
      obtain ⟨v2, r2, rfl, w2, w3⟩ := w2
      cases w3
      exact ⟨v1, v2, rfl, p _ _ _ _ (((r.step h1 h2).set i w1).set j w2) h2.hf h2.pre⟩
theorem s_par3 {i j k : Nat} {x y z : Str} {a b c : Expr} {px py pz pt pt2 : Pos} {kt k2 : Nat} (cc : Cc X W) (lx : Ll X i x) (ly : Ll X j y) (lz : Ll X k z) (hij : i ≠ j) (hik : i ≠ k) (hjk : j ≠ k) (ha : QA X B W [a, b, c] fa)
    (hw : swappedStores [.Tuple [.Name x px, .Name y py, .Name z pz] kt pt] (.Tuple [a, b, c] k2 pt2) X.env = pure (some [x, y, z]))
    (hs : swapsWithSole [.Tuple [.Name x px, .Name y py, .Name z pz] kt pt] (.Tuple [a, b, c] k2 pt2) pos.line X.env = pure false) :
    QS X B W (.Assign [.Tuple [.Name x px, .Name y py, .Name z pz] kt pt] (.Tuple [a, b, c] k2 pt2) pos) (fPar3 i j k fa) := by
  obtain ⟨t, a1, a2⟩ := ha
  refine ⟨_, ps_par3 cc.calm cc.nd lx.ix ly.ix lz.ix hij hik hjk lx.loc ly.loc lz.loc a1 hw hs, fun n E S σ H Hf ρ Q r p => a2 n E S σ H Hf ρ _ r ?_⟩
  unfold fPar3 at p
  cases e1 : fa n E S with
  | stk => rw [e1] at p; exact p
  | exc y S1 => rw [e1] at p; exact fun c od H' Hf' ρ' a b d => p c od σ H' Hf' ρ' (r.step a b) b.hf b.pre d
  | ok ds S1 =>
    rw [e1] at p
    intro vs H' Hf' ρ' h1 h2 w
    match ds, p, w with
    | [d1, d2, d3], p, w =>
      obtain ⟨v1, r1, rfl, w1, w2⟩ := w
      obtain ⟨v2, r2, rfl, w2, w3⟩ := w2
      obtain ⟨v3, r3, rfl, w3, w4⟩ := w3
      cases w4
      exact ⟨v1, v2, v3, rfl, p _ _ _ _ ((((r.step h1 h2).set i w1).set j w2).set k w3) h2.hf h2.pre⟩
end

/-! ### what is walked -/
def WalkD (K : PySem.W.Frag) (J : It) (ds : List D) (Hf : Hp) (ρ : List Addr) : Prop := ∀ (H1 Hf1 : Hp) (ρ1 : List Addr) (S1 : Store), HR K H1 Hf1 ρ1 S1 → Ext Hf Hf1 → Pre ρ ρ1 → ∀ i : Nat,
  (∀ d, ds[i]? = some d → J.go i H1 ∧ ∀ x H2, J.yld i H1 x H2 → ∃ Hf2, HR K H2 Hf2 ρ1 S1 ∧ Tr H1 Hf1 ρ1 H2 Hf2 ρ1 ∧ Dt K Hf2 ρ1 d x) ∧ (ds.length ≤ i → J.stop i H1)
def PostI (K : PySem.W.Frag) (W : WX) (σ : L2.St) (H Hf : Hp) (ρ : List Addr) (R : It → Hp → Prop) : Res (List D) → Prop
  | .ok ds S' => ∀ J H' Hf' ρ', HR K H' Hf' ρ' S' → Tr H Hf ρ H' Hf' ρ' → WalkD K J ds Hf' ρ' → R J H'
  | .exc x S' => PostX K W σ H Hf ρ x S'
  | .stk => False
def QI (X : Cx) (B : Gr) (W : WX) (tg it : Expr) (f : FA) : Prop := ∃ wi, PI X tg it wi ∧ ∀ n E S σ H Hf ρ R, Rel X.K B E S σ H Hf ρ → PostI X.K W σ H Hf ρ R (f n E S) → wi σ H R
theorem pi_or {X : Cx} {tg it : Expr} {w1 w2 : TI} (h1 : PI X tg it w1) (h2 : PI X tg it w2) : PI X tg it (fun σ H R => w1 σ H R ∨ w2 σ H R) :=
  ⟨fun pins s σ H R I h => h.elim (h1.run pins s σ H R I) (h2.run pins s σ H R I)⟩
/-- the items of a list or tuple -/
def fIt (f : FE) : FA := fun n E S => (f n E S).bind fun d S1 => match d with
  | .lst l => .ok l S1
  | .tup l => .ok l S1
  | .scr l => .ok (l.map D.int) S1
  | _ => .stk
theorem seq_inj {K : PySem.W.Frag} {H : Hp} {a : Addr} {xs ys : List V} (h : SqL K H a xs → True) : True := trivial
section
variable {K : PySem.W.Frag} {Hf : Hp} {ρ : List Addr}
/-- the list that stands frozen at a -/
theorem walk_list {a : Addr} {vs : List V} {l : List D} (h : Hf a = some (.lst vs)) (w : Dts K Hf ρ l vs) : WalkD K (Itl K a) l Hf ρ := by
  intro H1 Hf1 ρ1 S1 hr ex pr i
  have h1 : SqL K H1 a vs := SqL.of (hr.sub _ _ (ex _ _ h))
  refine ⟨fun d e => ?_, fun hl => ⟨vs, h1, by rw [← w.length]; exact hl⟩⟩
  obtain ⟨v, e1, e2⟩ := w.get e
  refine ⟨⟨vs, v, h1, e1⟩, fun x H2 y => ?_⟩
  obtain ⟨rfl, y⟩ := y
  have := y vs h1
  rw [e1] at this; cases this
  exact ⟨Hf1, hr, Tr.refl _ _ _, e2.mono ex pr⟩
theorem walk_tup {a : Addr} {vs : List V} {l : List D} (h : SqT K Hf a vs) (w : Dts K Hf ρ l vs) : WalkD K (Itt K a) l Hf ρ := by
  intro H1 Hf1 ρ1 S1 hr ex pr i
  have h1 : SqT K H1 a vs := hr.sub.sqT (ex.sqT h)
  refine ⟨fun d e => ?_, fun hl => ⟨vs, h1, by rw [← w.length]; exact hl⟩⟩
  obtain ⟨v, e1, e2⟩ := w.get e
  refine ⟨⟨vs, v, h1, e1⟩, fun x H2 y => ?_⟩
  obtain ⟨rfl, y⟩ := y
  have := y vs h1
  rw [e1] at this; cases this
  exact ⟨Hf1, hr, Tr.refl _ _ _, e2.mono ex pr⟩
theorem walk_scr {a : Addr} {l : List Int} (h : SqL K Hf a (l.map V.int)) : WalkD K (Itl K a) (l.map D.int) Hf ρ := by
  intro H1 Hf1 ρ1 S1 hr ex pr i
  have h1 : SqL K H1 a (l.map V.int) := hr.sub.sqL (ex.sqL h)
  have w : Dts K Hf ρ (l.map D.int) (l.map V.int) := Dts.ofInts l
  refine ⟨fun d e => ?_, fun hl => ⟨_, h1, by rw [← w.length]; exact hl⟩⟩
  obtain ⟨v, e1, e2⟩ := w.get e
  refine ⟨⟨_, v, h1, e1⟩, fun x H2 y => ?_⟩
  obtain ⟨rfl, y⟩ := y
  have := y _ h1
  rw [e1] at this; cases this
  exact ⟨Hf1, hr, Tr.refl _ _ _, e2.mono ex pr⟩
end
section
variable {X : Cx} {B : Gr} {W : WX} {tg e e2 : Expr} {fe fe2 : FE} {pos p1 : Pos} {fa : FA}
theorem i_seq (he : QE X B W e fe) : QI X B W tg e (fIt fe) := by
  obtain ⟨t, a1, a2⟩ := he
  refine ⟨_, pi_or (pi_list a1) (pi_tup a1), fun n E S σ H Hf ρ R r p => ?_⟩
  unfold fIt at p
  cases e1 : fe n E S with
  | stk => rw [e1] at p; exact p.elim
  | exc y S1 =>
    rw [e1] at p
    exact .inl (a2 n E S σ H Hf ρ _ r (by rw [e1]; exact p))
  | ok d S1 =>
    rw [e1] at p
    cases d <;> try exact p.elim
    · rename_i l
      refine .inr (a2 n E S σ H Hf ρ _ r ?_)
      rw [e1]
      intro v H' Hf' ρ' h1 h2 w
      obtain ⟨a, vs, rfl, w1, w2⟩ := (show Dt X.K Hf' ρ' (.tup l) v from w)
      exact ⟨a, rfl, ⟨vs, h1.sub.sqT w1⟩, p _ H' Hf' ρ' h1 h2 (walk_tup w1 w2)⟩
    · rename_i l
      refine .inl (a2 n E S σ H Hf ρ _ r ?_)
      rw [e1]
      intro v H' Hf' ρ' h1 h2 w
      obtain ⟨a, vs, rfl, w1, w2⟩ := (show Dt X.K Hf' ρ' (.lst l) v from w)
      exact ⟨a, rfl, ⟨vs, SqL.of (h1.sub _ _ w1)⟩, p _ H' Hf' ρ' h1 h2 (walk_list w1 w2)⟩
    · rename_i l
      refine .inl (a2 n E S σ H Hf ρ _ r ?_)
      rw [e1]
      intro v H' Hf' ρ' h1 h2 w
      obtain ⟨a, rfl, w1⟩ := (show Dt X.K Hf' ρ' (.scr l) v from w)
      exact ⟨a, rfl, ⟨_, h1.sub.sqL w1⟩, p _ H' Hf' ρ' h1 h2 (walk_scr w1)⟩
/-- lo, lo + 1, .. : n of them -/
def rngD (lo : Int) (n : Nat) : List D := (List.range n).map fun i : Nat => .int (lo + i)
def smallR (j : Int) : Bool := decide (-(2 ^ 62) ≤ j) && decide (j < 2 ^ 62)
/-- by the arguments' data -/
def fLift (h : List D → Option (List D)) (f : FA) : FA := fun n E S => (f n E S).bind fun ds S1 => match h ds with
  | some l => .ok l S1
  | none => .stk
def rng1? : List D → Option (List D)
  | [.int j] => if smallR j = true then some (rngD 0 j.toNat) else none
  | _ => none
def rng2? : List D → Option (List D)
  | [.int i, .int j] => if (smallR i && smallR j) = true then some (rngD i (j - i).toNat) else none
  | _ => none
theorem lift_post {K : PySem.W.Frag} {σ : L2.St} {H Hf : Hp} {ρ : List Addr} {R : It → Hp → Prop} {h : List D → Option (List D)} {n : Nat} {E : Env} {S : Store} {Q : List V → Hp → Prop}
    (p : PostI K W σ H Hf ρ R (fLift h fa n E S))
    (q : ∀ ds l S1 vs H' Hf' ρ', h ds = some l → HR K H' Hf' ρ' S1 → Tr H Hf ρ H' Hf' ρ' → Dts K Hf' ρ' ds vs → (∀ J H2 Hf2 ρ2, HR K H2 Hf2 ρ2 S1 → Tr H Hf ρ H2 Hf2 ρ2 → WalkD K J l Hf2 ρ2 → R J H2) → Q vs H') : PostA K W σ H Hf ρ Q (fa n E S) := by
  unfold fLift at p
  cases e1 : fa n E S with
  | stk => rw [e1] at p; exact p.elim
  | exc y S1 => rw [e1] at p; exact p
  | ok ds S1 =>
    rw [e1] at p
    intro vs H' Hf' ρ' h1 h2 w
    have p : PostI K W σ H Hf ρ R (match h ds with | some l => .ok l S1 | none => .stk) := p
    cases e2 : h ds with
    | none => rw [e2] at p; exact p.elim
    | some l => rw [e2] at p; exact q ds l S1 vs H' Hf' ρ' e2 h1 h2 w p
theorem walk_rng {K : PySem.W.Frag} {lo : Int} {n : Nat} {Hf : Hp} {ρ : List Addr} : WalkD K (Itr lo n) (rngD lo n) Hf ρ := by
  intro H1 Hf1 ρ1 S1 hr ex pr i
  unfold rngD
  refine ⟨fun d e => ?_, fun hl => (by simpa using hl : n ≤ i)⟩
  rw [List.getElem?_map] at e
  cases z : (List.range n)[i]? with
  | none => rw [z] at e; cases e
  | some j =>
    rw [z] at e
    obtain ⟨hj, ej⟩ := List.getElem?_eq_some_iff.mp z
    simp at hj ej
    cases e
    refine ⟨hj, fun x H2 y => ?_⟩
    obtain ⟨rfl, rfl⟩ := y
    exact ⟨Hf1, hr, Tr.refl _ _ _, by rw [ej]; rfl⟩
theorem i_r1 {a : Expr} (hb : Blt X "range") (ha : QA X B W [a] fa) (hs : starEach [a] X.env = [(false, eval a X.env)]) : QI X B W tg (.Call (.Name "range" p1) [a] [] pos) (fLift rng1? fa) := by
  obtain ⟨t, a1, a2⟩ := ha
  refine ⟨_, pi_range1 hb.gl hb.free a1 hs, fun n E S σ H Hf ρ R r p => a2 n E S σ H Hf ρ _ r (lift_post p fun ds l S1 vs H' Hf' ρ' e h1 h2 w k => ?_)⟩
  unfold rng1? at e
  split at e
  · rename_i j
    split at e
    · rename_i hc
      cases e
      unfold smallR at hc
      simp only [Bool.and_eq_true, decide_eq_true_eq] at hc
      obtain ⟨v1, r1, rfl, w1, w2⟩ := w
      cases w2
      have w1 : v1 = .int j := w1
      exact ⟨j, by rw [w1], hc.1, hc.2, k _ H' Hf' ρ' h1 h2 walk_rng⟩
    · cases e
  · cases e
theorem i_r2 {a b : Expr} (hb : Blt X "range") (ha : QA X B W [a, b] fa) (hs : starEach [a, b] X.env = [(false, eval a X.env), (false, eval b X.env)]) (hs2 : starEach [b] X.env = [(false, eval b X.env)]) : QI X B W tg (.Call (.Name "range" p1) [a, b] [] pos) (fLift rng2? fa) := by
  obtain ⟨t, a1, a2⟩ := ha
  refine ⟨_, pi_range2 hb.gl hb.free a1 hs hs2, fun n E S σ H Hf ρ R r p => a2 n E S σ H Hf ρ _ r (lift_post p fun ds l S1 vs H' Hf' ρ' e h1 h2 w k => ?_)⟩
  unfold rng2? at e
  split at e
  · rename_i i j
    split at e
    · rename_i hc
      cases e
      unfold smallR at hc
      simp only [Bool.and_eq_true, decide_eq_true_eq] at hc
      obtain ⟨v1, r1, rfl, w1, w2⟩ := w
      obtain ⟨v2, r2, rfl, w2, w3⟩ := w2
      cases w3
      have w1 : v1 = .int i := w1
      have w2 : v2 = .int j := w2
      exact ⟨i, j, by rw [w1, w2], ⟨hc.1.1, hc.1.2, hc.2.1, hc.2.2⟩, k _ H' Hf' ρ' h1 h2 walk_rng⟩
    · cases e
  · cases e
/-- zip of two lists, of two tuples -/
def zipD : List D → List D → List D
  | a :: l, b :: m => .tup [a, b] :: zipD l m
  | _, _ => []
def zip? : List D → Option (List D)
  | [.lst l, .lst m] => some (zipD l m)
  | [.tup l, .tup m] => some (zipD l m)
  | _ => none
theorem zipD_get : ∀ {l m : List D} {i : Nat} {d : D}, (zipD l m)[i]? = some d → ∃ a b, l[i]? = some a ∧ m[i]? = some b ∧ d = .tup [a, b]
  | [], m, i, d, h => by simp [zipD] at h
  | a :: l, [], i, d, h => by simp [zipD] at h
  | a :: l, b :: m, 0, d, h => by simp [zipD] at h; exact ⟨a, b, rfl, rfl, h.symm⟩
  | a :: l, b :: m, i + 1, d, h => by
    obtain ⟨x, y, h1, h2, h3⟩ := zipD_get (l := l) (m := m) (i := i) (d := d) (by simpa [zipD] using h)
    exact ⟨x, y, by simpa using h1, by simpa using h2, h3⟩
theorem zipD_len : ∀ (l m : List D), (zipD l m).length = min l.length m.length
  | [], m => by simp [zipD]
  | a :: l, [] => by simp [zipD]
  | a :: l, b :: m => by simp only [zipD, List.length_cons, zipD_len l m]; omega
theorem pair_new {K : PySem.W.Frag} {H1 Hf1 : Hp} {ρ1 : List Addr} {S1 : Store} {a b : D} {x y : V} {T : Addr} (hr : HR K H1 Hf1 ρ1 S1) (hT : H1 T = none) (wa : Dt K Hf1 ρ1 a x) (wb : Dt K Hf1 ρ1 b y) :
    ∃ Hf2, HR K (upd H1 T (.tup [x, y])) Hf2 ρ1 S1 ∧ Tr H1 Hf1 ρ1 (upd H1 T (.tup [x, y])) Hf2 ρ1 ∧ Dt K Hf2 ρ1 (.tup [a, b]) (.ref T) := by
  have t := Tr.new (ρ := ρ1) (o := .tup [x, y]) hT hr.sub
  exact ⟨_, hr.new hT (hr.notin hT), t, T, [x, y], rfl, SqT.of upd_same, x, [y], rfl, wa.mono t.hf (Pre.refl _), y, [], rfl, wb.mono t.hf (Pre.refl _), rfl⟩
theorem i_zip {elts : List Expr} {kk : Nat} {tpos : Pos} (hb : Blt X "zip") (ha : QA X B W [e, e2] fa)
    (hs : starEach [e, e2] X.env = (false, eval e X.env) :: starEach [e2] X.env) (hpl : (backTo pos (starEach [e2] X.env)).any (·.1) = false) : QI X B W (.Tuple elts kk tpos) (.Call (.Name "zip" p1) [e, e2] [] pos) (fLift zip? fa) := by
  obtain ⟨t, a1, a2⟩ := ha
  refine ⟨_, RZ.pi_zipA hb.gl hb.free a1 hs hpl, fun n E S σ H Hf ρ R r p => a2 n E S σ H Hf ρ _ r (lift_post p fun ds l S1 vs H' Hf' ρ' e h1 h2 w k => ?_)⟩
  unfold zip? at e
  split at e
  · rename_i l m
    cases e
    obtain ⟨v1, r1, rfl, w1, w2⟩ := w
    obtain ⟨v2, r2, rfl, w2, w3⟩ := w2
    cases w3
    obtain ⟨a, xs, rfl, k1, k2⟩ := (show Dt X.K Hf' ρ' (.lst l) v1 from w1)
    obtain ⟨b, ys, rfl, k3, k4⟩ := (show Dt X.K Hf' ρ' (.lst m) v2 from w2)
    refine ⟨a, b, xs, ys, rfl, .inl ⟨SqL.of (h1.sub _ _ k1), SqL.of (h1.sub _ _ k3), k _ H' Hf' ρ' h1 h2 ?_⟩⟩
    intro H1 Hf1 ρ1 S1 hr ex pr i
    have g1 : SqL X.K H1 a xs := SqL.of (hr.sub _ _ (ex _ _ k1))
    have g2 : SqL X.K H1 b ys := SqL.of (hr.sub _ _ (ex _ _ k3))
    refine ⟨fun d e => ?_, fun hl => ⟨xs, ys, g1, g2, ?_⟩⟩
    · obtain ⟨da, db, x1, x2, rfl⟩ := zipD_get e
      obtain ⟨va, y1, y2⟩ := k2.get x1
      obtain ⟨vb, y3, y4⟩ := k4.get x2
      refine ⟨⟨xs, ys, va, vb, g1, g2, y1, y3⟩, fun x H2 y => ?_⟩
      obtain ⟨T, u1, u2, rfl, hT, rfl, z1, z2⟩ := y
      have z1 := z1 xs g1
      have z2 := z2 ys g2
      rw [y1] at z1; cases z1
      rw [y3] at z2; cases z2
      exact pair_new hr hT (y2.mono ex pr) (y4.mono ex pr)
    · rw [zipD_len] at hl
      rw [← k2.length, ← k4.length]
      omega
  · rename_i l m
    cases e
    obtain ⟨v1, r1, rfl, w1, w2⟩ := w
    obtain ⟨v2, r2, rfl, w2, w3⟩ := w2
    cases w3
    obtain ⟨a, xs, rfl, k1, k2⟩ := (show Dt X.K Hf' ρ' (.tup l) v1 from w1)
    obtain ⟨b, ys, rfl, k3, k4⟩ := (show Dt X.K Hf' ρ' (.tup m) v2 from w2)
    refine ⟨a, b, xs, ys, rfl, .inr ⟨h1.sub.sqT k1, h1.sub.sqT k3, k _ H' Hf' ρ' h1 h2 ?_⟩⟩
    intro H1 Hf1 ρ1 S1 hr ex pr i
    have g1 : SqT X.K H1 a xs := hr.sub.sqT (ex.sqT k1)
    have g2 : SqT X.K H1 b ys := hr.sub.sqT (ex.sqT k3)
    refine ⟨fun d e => ?_, fun hl => ⟨xs, ys, g1, g2, ?_⟩⟩
    · obtain ⟨da, db, x1, x2, rfl⟩ := zipD_get e
      obtain ⟨va, y1, y2⟩ := k2.get x1
      obtain ⟨vb, y3, y4⟩ := k4.get x2
      refine ⟨⟨xs, ys, va, vb, g1, g2, y1, y3⟩, fun x H2 y => ?_⟩
      obtain ⟨T, u1, u2, rfl, hT, rfl, z1, z2⟩ := y
      have z1 := z1 xs g1
      have z2 := z2 ys g2
      rw [y1] at z1; cases z1
      rw [y3] at z2; cases z2
      exact pair_new hr hT (y2.mono ex pr) (y4.mono ex pr)
    · rw [zipD_len] at hl
      rw [← k2.length, ← k4.length]
      omega
  · cases e
end
end DL

end

section
set_option autoImplicit false
set_option autoImplicit false
namespace DL
open PySem PySem.Spec PyProof.Rows L2

/-! ### for, while -/
def forL (g : Tgt) (b : Env → Store → SRes) : List D → Env → Store → SRes
  | [], E, S => .nx E S
  | d :: ds, E, S => match g d E with
    | none => .stk
    | some E1 => match b E1 S with
      | .nx E2 S2 => forL g b ds E2 S2
      | .ct E2 S2 => forL g b ds E2 S2
      | .bk E2 S2 => .nx E2 S2
      | r => r
def fFor (it : FA) (g : Tgt) (b : FS) : FS := fun n E S => match it n E S with
  | .ok ds S1 => forL g (b n) ds E S1
  | .exc x S1 => .ex x E S1
  | .stk => .stk
def whileL (c : Env → Store → Res Bool) (b : Env → Store → SRes) : Nat → Env → Store → SRes
  | 0, _, _ => .stk
  | k + 1, E, S => match c E S with
    | .ok true S1 => match b E S1 with
      | .nx E2 S2 => whileL c b k E2 S2
      | .ct E2 S2 => whileL c b k E2 S2
      | .bk E2 S2 => .nx E2 S2
      | r => r
    | .ok false S1 => .nx E S1
    | .exc x S1 => .ex x E S1
    | .stk => .stk
def fWhile (c : FT) (b : FS) : FS := fun n E S => whileL (c n) (b n) n E S
section
variable {X : Cx} {B : Gr} {W : WX} {pos : Pos} {tg it c : Expr} {body : List Stmt} {is : List Nat} {fi : FA} {g : Tgt} {b : FS} {ft : FT}
theorem s_for (cc : Cc X W) (hi : QI X B W tg it fi) (hg : QG X B tg is g) (hb : QSs X B W body b) (hs : ∀ x, foldedSetIterable it X.env x = pure x) : QS X B W (.For tg it body [] pos) (fFor fi g b) := by
  obtain ⟨wi, i1, i2⟩ := hi
  obtain ⟨t, g1, g2⟩ := hg
  obtain ⟨tb, b1, b2⟩ := hb
  refine ⟨_, ps_for cc.po cc.calm i1 g1 b1 hs, fun n E S σ H Hf ρ Q r p => i2 n E S σ H Hf ρ _ r ?_⟩
  unfold fFor at p
  cases e1 : fi n E S with
  | stk => rw [e1] at p; exact p
  | exc y S1 => rw [e1] at p; exact fun c od H' Hf' ρ' a b d => p c od σ H' Hf' ρ' (r.step a b) b.hf b.pre d
  | ok ds S1 =>
    rw [e1] at p
    intro J H1 Hf1 ρ1 hr1 t1 wk
    have p : PostS X.K W B Hf1 ρ1 Q (forL g (b n) ds E S1) := PostS.mono t1.hf t1.pre p
    let Wi : Nat → Nat → L2.St → Hp → Prop := fun i m σ H => ∃ E S Hf ρ, Rel X.K B E S σ H Hf ρ ∧ Ext Hf1 Hf ∧ Pre ρ1 ρ ∧ m = ds.length - i ∧ PostS X.K W B Hf ρ Q (forL g (b n) (ds.drop i) E S)
    refine ⟨Wi, ⟨ds.length, E, S1, Hf1, ρ1, r.step hr1 t1, Ext.refl _, Pre.refl _, by simp, by simpa using p⟩, ?_⟩
    rintro i m σ2 H2 ⟨E2, S2, Hf2, ρ2, r2, ex2, pr2, rfl, p2⟩
    obtain ⟨k1, k2⟩ := wk H2 Hf2 ρ2 S2 r2.hr ex2 pr2 i
    by_cases hi : i < ds.length
    · obtain ⟨go, yl⟩ := k1 ds[i] (List.getElem?_eq_getElem hi)
      have ed : ds.drop i = ds[i] :: ds.drop (i + 1) := List.drop_eq_getElem_cons hi
      rw [ed] at p2
      refine .inr ⟨go, Wi (i + 1) (ds.length - (i + 1)), fun σ' H' w => ⟨ds.length - (i + 1), by omega, w⟩, fun x H3 y => ?_⟩
      obtain ⟨Hf3, hr3, t3, w3⟩ := yl x H3 y
      have r3 := r2.step hr3 t3
      unfold forL at p2
      cases eg : g ds[i] E2 with
      | none => rw [eg] at p2; exact p2.elim
      | some E3 =>
        rw [eg] at p2
        refine g2 ds[i] E2 E3 S2 σ2 H3 Hf3 ρ2 x _ r3 w3 eg fun σ4 r4 _ => ?_
        refine b2 n E3 S2 σ4 H3 Hf3 ρ2 _ r4 ?_
        have p2 : PostS X.K W B Hf3 ρ2 Q (match b n E3 S2 with
          | .nx E2 S2 => forL g (b n) (ds.drop (i + 1)) E2 S2
          | .ct E2 S2 => forL g (b n) (ds.drop (i + 1)) E2 S2
          | .bk E2 S2 => .nx E2 S2
          | r => r) := PostS.mono t3.hf t3.pre p2
        cases eb : b n E3 S2 with
        | nx E5 S5 =>
          rw [eb] at p2
          exact fun σ5 H5 Hf5 ρ5 r5 ex5 pr5 => ⟨E5, S5, Hf5, ρ5, r5, (ex2.trans t3.hf).trans ex5, pr2.trans pr5, rfl, PostS.mono ex5 pr5 p2⟩
        | ct E5 S5 =>
          rw [eb] at p2
          exact fun σ5 H5 Hf5 ρ5 r5 ex5 pr5 => ⟨E5, S5, Hf5, ρ5, r5, (ex2.trans t3.hf).trans ex5, pr2.trans pr5, rfl, PostS.mono ex5 pr5 p2⟩
        | bk E5 S5 => rw [eb] at p2; exact p2
        | rt d S5 => rw [eb] at p2; exact p2
        | ex y E5 S5 => rw [eb] at p2; exact p2
        | stk => rw [eb] at p2; exact p2
    · refine .inl ⟨k2 (by omega), ?_⟩
      rw [List.drop_eq_nil_of_le (by omega)] at p2
      exact p2 σ2 H2 Hf2 ρ2 r2 (Ext.refl _) (Pre.refl _)
theorem s_while (cc : Cc X W) (hc : QT X B W c ft) (hb : QSs X B W body b) : QS X B W (.While c body [] pos) (fWhile ft b) := by
  obtain ⟨tc, c1, c2⟩ := hc
  obtain ⟨tb, b1, b2⟩ := hb
  refine ⟨_, ps_while cc.po c1 b1, fun n E S σ H Hf ρ Q r p => ?_⟩
  have p : PostS X.K W B Hf ρ Q (whileL (ft n) (b n) n E S) := p
  let Wi : Nat → L2.St → Hp → Prop := fun m σ H => ∃ E S Hf ρ, Rel X.K B E S σ H Hf ρ ∧ PostS X.K W B Hf ρ Q (whileL (ft n) (b n) m E S)
  refine ⟨Wi, ⟨n, E, S, Hf, ρ, r, p⟩, ?_⟩
  rintro m σ1 H1 ⟨E1, S1, Hf1, ρ1, r1, p1⟩
  cases m with
  | zero => exact p1.elim
  | succ m =>
    refine c2 n E1 S1 σ1 H1 Hf1 ρ1 _ r1 ?_
    unfold whileL at p1
    cases e1 : ft n E1 S1 with
    | stk => rw [e1] at p1; exact p1
    | exc y S2 => rw [e1] at p1; exact fun c od H' Hf' ρ' a b d => p1 c od σ1 H' Hf' ρ' (r1.step a b) b.hf b.pre d
    | ok k S2 =>
      rw [e1] at p1
      intro H2 Hf2 ρ2 h1 h2
      have r2 := r1.step h1 h2
      cases k with
      | false =>
        rw [if_neg Bool.false_ne_true]
        exact p1 σ1 H2 Hf2 ρ2 r2 h2.hf h2.pre
      | true =>
        rw [if_pos rfl]
        refine ⟨Wi m, fun σ' H' w => ⟨m, Nat.lt_succ_self m, w⟩, b2 n E1 S2 σ1 H2 Hf2 ρ2 _ r2 ?_⟩
        have p2 : PostS X.K W B Hf2 ρ2 Q (match b n E1 S2 with
          | .nx E2 S2 => whileL (ft n) (b n) m E2 S2
          | .ct E2 S2 => whileL (ft n) (b n) m E2 S2
          | .bk E2 S2 => .nx E2 S2
          | r => r) := PostS.mono h2.hf h2.pre p1
        cases eb : b n E1 S2 with
        | nx E5 S5 =>
          rw [eb] at p2
          exact fun σ5 H5 Hf5 ρ5 r5 ex5 pr5 => ⟨E5, S5, Hf5, ρ5, r5, PostS.mono ex5 pr5 p2⟩
        | ct E5 S5 =>
          rw [eb] at p2
          exact fun σ5 H5 Hf5 ρ5 r5 ex5 pr5 => ⟨E5, S5, Hf5, ρ5, r5, PostS.mono ex5 pr5 p2⟩
        | bk E5 S5 => rw [eb] at p2; exact p2
        | rt d S5 => rw [eb] at p2; exact p2
        | ex y E5 S5 => rw [eb] at p2; exact p2
        | stk => rw [eb] at p2; exact p2
def fBrk : FS := fun _ E S => .bk E S
def fCnt : FS := fun _ E S => .ct E S
theorem s_break : QS X B W (.Break pos) fBrk := ⟨_, ps_break, fun n E S σ H Hf ρ Q r p => p σ H Hf ρ r (Ext.refl _) (Pre.refl _)⟩
theorem s_cont : QS X B W (.Continue pos) fCnt := ⟨_, ps_continue, fun n E S σ H Hf ρ Q r p => p σ H Hf ρ r (Ext.refl _) (Pre.refl _)⟩
theorem s_pass : QS X B W (.Pass pos) fSkip := ⟨_, ps_pass, fun n E S σ H Hf ρ Q r p => p σ H Hf ρ r (Ext.refl _) (Pre.refl _)⟩
end
end DL

end

section
set_option autoImplicit false
set_option autoImplicit false
namespace DL
open PySem PySem.Spec PyProof.Rows L2

/-! ### lists that change -/
/-- name.append(value), the list one's own -/
def fApp (i : Nat) (f : FE) : FS := fun n E S => match E[i]? with
  | some (some (.own (.lst l))) => match f n E S with
    | .ok d S1 => if l.length < 1000000 then .nx (E.set i (some (.own (.lst (l ++ [d]))))) S1 else .stk
    | .exc x S1 => .ex x E S1
    | .stk => .stk
  | _ => .stk
/-- name[k] = value, the list one's own -/
def fSetIx (i : Nat) (fk fv : FE) : FS := fun n E S => match fv n E S with
  | .ok d S1 => match E[i]? with
    | some (some (.own (.lst l))) => match fk n E S1 with
      | .ok (.int k) S2 => match ixN l.length k with
        | some j => .nx (E.set i (some (.own (.lst (l.set j d))))) S2
        | none => .stk
      | .ok _ _ => .stk
      | .exc x S1 => .ex x E S1
      | .stk => .stk
    | _ => .stk
  | .exc x S1 => .ex x E S1
  | .stk => .stk
/-- name[k] = value, the list held by several -/
def fSetIxH (i : Nat) (k : Int) (fv : FE) : FS := fun n E S => match fv n E S with
  | .ok d S1 => match E[i]? with
    | some (some (.fz (.hd h))) => match S1[h]? with
      | some (.lst l) => match ixN l.length k with
        | some j => .nx E (S1.set h (.lst (l.set j d)))
        | none => .stk
      | _ => .stk
    | _ => .stk
  | .exc x S1 => .ex x E S1
  | .stk => .stk
/-- name[k], the list held by several -/
def fIxH (i : Nat) (k : Int) : FE := fun _ E S => match E[i]? with
  | some (some (.fz (.hd h))) => match S[h]? with
    | some (.lst l) => match atI l k with
      | some d => .ok d S
      | none => .stk
    | _ => .stk
  | _ => .stk
section
variable {X : Cx} {B : Gr} {W : WX} {pos pos' p1 p2 p3 : Pos} {e k : Expr} {fe fk : FE} {x : Str} {i : Nat}
theorem upd_len {xs ys : List V} : True := trivial
theorem s_app (v : Vr X i x) (he : QE X B W e fe)
    (hbase : attributeBase (.Name x p1) "append" X.env (eval (.Name x p1) X.env) = eval (.Name x p1) X.env)
    (hfew : ((backTo pos' (starEach [e] X.env)).all (fun x => !x.1) && (backToKw pos' (keywordEach [] X.env)).all (fun x => x.1.isSome)
      && decide (([e] : List Expr).length + ([] : List Keyword).length + (if ([] : List Keyword).isEmpty then 0 else 1) < 30)) = true)
    (hline : (p2.endLine == pos'.line) = true) (hs : starEach [e] X.env = (false, eval e X.env) :: starEach [] X.env) (hplain : (backTo pos' (starEach [] X.env)).any (·.1) = false) :
    QS X B W (.Expr (.Call (.Attribute (.Name x p1) "append" p2) [e] [] pos') pos) (fApp i fe) := by
  obtain ⟨t, a1, a2⟩ := he
  have hp : PE X (.Call (.Attribute (.Name x p1) "append" p2) [e] [] pos') _ := pe_bm PySem.F.plainAttrs_list PySem.F.slot_list_append PySem.F.type_list_append mt_append (pe_var v.ix v.vis v.db v.cd) (pa_cons a1 pa_nil hs) hbase hfew hline hs hplain
  refine ⟨_, ps_expr hp, fun n E S σ H Hf ρ Q r p => ?_⟩
  unfold fApp at p
  split at p
  · rename_i l el
    obtain ⟨a, h1, h2, h3, h4, vs, h5, h6⟩ := r.sl i _ el
    refine ⟨.ref a, h1, .inl ⟨rfl, vs, SqL.of h5⟩, a2 n E S σ H Hf ρ _ r ?_⟩
    cases e1 : fe n E S with
    | stk => rw [e1] at p; exact p
    | exc y S1 => rw [e1] at p; exact fun c od H' Hf' ρ' a b d => p c od σ H' Hf' ρ' (r.step a b) b.hf b.pre d
    | ok d S1 =>
      rw [e1] at p
      intro u H' Hf' ρ' k1 k2 w
      have p : PostS X.K W B Hf ρ Q (if l.length < 1000000 then .nx (E.set i (some (.own (.lst (l ++ [d]))))) S1 else .stk) := p
      by_cases hl : l.length < 1000000
      · rw [if_pos hl] at p
        have r' := r.step k1 k2
        obtain ⟨a', g1, g2, g3, g4, us, g5, g6⟩ := r'.sl i _ el
        rw [h1] at g1; cases g1
        refine ⟨a, us, u, rfl, rfl, g5, ?_, ?_⟩
        · rw [← g6.length]; exact Nat.lt_of_lt_of_le hl (by decide)
        · exact p _ _ _ _ (r'.updOwn el h1 g2 g3 g4 ⟨us ++ [u], upd_same, g6.append (Dts.one w)⟩) k2.hf k2.pre
      · rw [if_neg hl] at p; exact p.elim
  · exact p.elim
theorem s_setIx (v : Vr X i x) (hk : QE X B W k fk) (he : QE X B W e fe) (ha : ∀ v, assign (.Subscript (.Name x p1) k p2) X.env v = (do
      let ov ← holding [v] (eval (.Name x p1) X.env)
      let iv ← holding [v, ov] (eval k X.env)
      standAt p2
      holding [v, ov, iv] (setItem ov iv v)
      release [v, ov, iv] []))
    (hs : swapsWithSole [.Subscript (.Name x p1) k p2] e pos.line X.env = pure false) (hw : swappedStores [.Subscript (.Name x p1) k p2] e X.env = pure none)
    (h1 : (assignEach [.Subscript (.Name x p1) k p2] X.env).map (·.2) = [assign (.Subscript (.Name x p1) k p2) X.env]) : QS X B W (.Assign [.Subscript (.Name x p1) k p2] e pos) (fSetIx i fk fe) := by
  obtain ⟨t, a1, a2⟩ := he
  obtain ⟨u, b1, b2⟩ := hk
  refine ⟨_, ps_asg a1 (pg_sub (pe_var v.ix v.vis v.db v.cd) b1 set_list ha) hs hw h1, fun n E S σ H Hf ρ Q r p => a2 n E S σ H Hf ρ _ r ?_⟩
  unfold fSetIx at p
  cases e1 : fe n E S with
  | stk => rw [e1] at p; exact p
  | exc y S1 => rw [e1] at p; exact fun c od H' Hf' ρ' a b d => p c od σ H' Hf' ρ' (r.step a b) b.hf b.pre d
  | ok d S1 =>
    rw [e1] at p
    intro v H1 Hf1 ρ1 hr1 t1 w1
    have r1 := r.step hr1 t1
    dsimp only at p
    split at p
    · rename_i l el
      obtain ⟨a, h1, h2, h3, h4, vs, h5, h6⟩ := r1.sl i _ el
      refine ⟨.ref a, h1, b2 n E S1 σ H1 Hf1 ρ1 _ r1 ?_⟩
      cases e2 : fk n E S1 with
      | stk => rw [e2] at p; exact p
      | exc y S2 => rw [e2] at p; exact fun c od H' Hf' ρ' a b d => p c od σ H' Hf' ρ' (r1.step a b) (t1.hf.trans b.hf) (t1.pre.trans b.pre) d
      | ok dk S2 =>
        rw [e2] at p
        intro z H2 Hf2 ρ2 hr2 t2 w2
        have r2 := r1.step hr2 t2
        cases dk <;> try exact p.elim
        rename_i kk
        have w2 : z = .int kk := w2
        dsimp only at p
        split at p
        · rename_i j hj
          obtain ⟨a', g1, g2, g3, g4, us, g5, g6⟩ := r2.sl i _ el
          rw [h1] at g1; cases g1
          refine ⟨a, us, kk, j, rfl, w2, g5, by rw [← g6.length]; exact hj, ?_⟩
          exact p _ _ _ _ (r2.updOwn el h1 g2 g3 g4 ⟨us.set j v, upd_same, g6.set j (w1.mono t2.hf t2.pre)⟩) (t1.hf.trans t2.hf) (t1.pre.trans t2.pre)
        · exact p.elim
    · exact p.elim
/-- a cell of the store is written -/
theorem Rel.cell {K : PySem.W.Frag} {B : Gr} {E : Env} {S : Store} {σ : L2.St} {H Hf : Hp} {ρ : List Addr} (r : Rel K B E S σ H Hf ρ) {h : Nat} {a : Addr} {c : Cell} {o : HO} (ha : ρ[h]? = some a)
    (hc : CellOk K Hf ρ (upd H a o) a c) : Rel K B E (S.set h c) σ (upd H a o) Hf ρ := by
  have am : a ∈ ρ := mem_of_get ha
  have hfa : Hf a = none := r.hr.hd h a ha
  refine ⟨⟨fun b u e => ?_, by rw [List.length_set]; exact r.hr.len, r.hr.nd, r.hr.hd, fun n b c' e1 e2 => ?_⟩, ⟨r.tr.hf, r.tr.pre, fun b u hb hbn => ?_, r.tr.fresh, r.tr.newh, fun b hb => ?_⟩, r.len, fun i s e => ?_, r.dis⟩
  · have : b ≠ a := fun z => by subst z; rw [hfa] at e; cases e
    rw [upd_ne this]; exact r.hr.sub b u e
  · by_cases hn : h = n
    · subst hn
      rw [ha] at e1; cases e1
      have hl : h < S.length := by rw [← r.hr.len]; exact (List.getElem?_eq_some_iff.mp ha).1
      rw [List.getElem?_set_self hl] at e2
      cases e2
      exact hc
    · rw [List.getElem?_set_ne hn] at e2
      have q := r.hr.cell n b c' e1 e2
      have ne : b ≠ a := fun z => hn (by subst z; exact r.hr.nd h n _ ha e1)
      cases c' with
      | lst l => obtain ⟨vs, x, y⟩ := q; exact ⟨vs, by rw [upd_ne ne]; exact x, y⟩
      | ins C fs => obtain ⟨dx, gs, x, y⟩ := q; exact ⟨dx, gs, by rw [upd_ne ne]; exact x, y⟩
  · have : b ≠ a := fun z => by
      subst z
      rcases r.tr.newh b am with z | z
      · exact hbn z
      · rw [hb] at z; cases z
    rw [upd_ne this]; exact r.tr.keep b u hb hbn
  · by_cases z : b = a
    · subst z; rw [upd_same]; simp
    · rw [upd_ne z]; exact r.tr.alive b hb
  · have q := r.sl i s e
    cases s with
    | fz d => exact q
    | own d =>
      obtain ⟨b, q1, q2, q3, q4, q5⟩ := q
      have ne : b ≠ a := fun z => q4 (z ▸ am)
      refine ⟨b, q1, q2, q3, q4, ?_⟩
      cases d with
      | lst l => obtain ⟨vs, x, y⟩ := q5; exact ⟨vs, by rw [upd_ne ne]; exact x, y⟩
      | dct l => obtain ⟨vs, x, y⟩ := q5; exact ⟨vs, by rw [upd_ne ne]; exact x, y⟩
      | _ => exact q5.elim
theorem s_setIxH {z : Int} {j : Nat} (v : Vr X i x) (he : QE X B W e fe) (ha : ∀ v, assign (.Subscript (.Name x p1) (.Constant (.int z) j p3) p2) X.env v = (do
      let ov ← holding [v] (eval (.Name x p1) X.env)
      let iv ← holding [v, ov] (eval (.Constant (.int z) j p3) X.env)
      standAt p2
      holding [v, ov, iv] (setItem ov iv v)
      release [v, ov, iv] []))
    (hs : swapsWithSole [.Subscript (.Name x p1) (.Constant (.int z) j p3) p2] e pos.line X.env = pure false) (hw : swappedStores [.Subscript (.Name x p1) (.Constant (.int z) j p3) p2] e X.env = pure none)
    (h1 : (assignEach [.Subscript (.Name x p1) (.Constant (.int z) j p3) p2] X.env).map (·.2) = [assign (.Subscript (.Name x p1) (.Constant (.int z) j p3) p2) X.env]) : QS X B W (.Assign [.Subscript (.Name x p1) (.Constant (.int z) j p3) p2] e pos) (fSetIxH i z fe) := by
  obtain ⟨t, a1, a2⟩ := he
  refine ⟨_, ps_asg a1 (pg_sub (pe_var v.ix v.vis v.db v.cd) pe_int set_list ha) hs hw h1, fun n E S σ H Hf ρ Q r p => a2 n E S σ H Hf ρ _ r ?_⟩
  unfold fSetIxH at p
  cases e1 : fe n E S with
  | stk => rw [e1] at p; exact p
  | exc y S1 => rw [e1] at p; exact fun c od H' Hf' ρ' a b d => p c od σ H' Hf' ρ' (r.step a b) b.hf b.pre d
  | ok d S1 =>
    rw [e1] at p
    intro v H1 Hf1 ρ1 hr1 t1 w1
    have r1 := r.step hr1 t1
    dsimp only at p
    split at p
    · rename_i h el
      obtain ⟨u, k1, k2⟩ := r1.sl i _ el
      obtain ⟨a, k3, rfl⟩ := k2
      split at p
      · rename_i l ec
        obtain ⟨vs, c1, c2⟩ := hr1.cell h a _ k3 ec
        split at p
        · rename_i jj hj
          refine ⟨.ref a, k1, a, vs, z, jj, rfl, rfl, c1, by rw [← c2.length]; exact hj, ?_⟩
          exact p _ _ _ _ (r1.cell k3 ⟨vs.set jj v, upd_same, c2.set jj w1⟩) t1.hf t1.pre
        · exact p.elim
      · exact p.elim
    · exact p.elim
theorem q_ixH {z : Int} {j : Nat} (v : Vr X i x) (hs : PlainIx (.Constant (.int z) j p2)) : QE X B W (.Subscript (.Name x p1) (.Constant (.int z) j p2) pos) (fIxH i z) := by
  refine ⟨_, pe_ix ix_list (pe_var v.ix v.vis v.db v.cd) pe_int hs, fun n E S σ H Hf ρ Q r p => ?_⟩
  unfold fIxH at p
  split at p
  · rename_i h el
    obtain ⟨u, k1, k2⟩ := r.sl i _ el
    obtain ⟨a, k3, rfl⟩ := k2
    split at p
    · rename_i l ec
      obtain ⟨vs, c1, c2⟩ := r.hr.cell h a _ k3 ec
      split at p
      · rename_i d ed
        obtain ⟨w, g1, g2⟩ := c2.atI ed
        exact ⟨.ref a, k1, a, vs, z, w, rfl, rfl, SqL.of c1, g1, p _ _ _ _ r.hr (Tr.refl _ _ _) g2⟩
      · exact p.elim
    · exact p.elim
  · exact p.elim
end
end DL

end

section
set_option autoImplicit false
set_option autoImplicit false
namespace DL
open PySem PySem.Spec PyProof.Rows L2

/-! ### one reading for all contexts -/
def canE (K : PySem.W.Frag) (B : Gr) (W : WX) (f : FE) : TE := fun σ H Q => ∃ n E S Hf ρ, Rel K B E S σ H Hf ρ ∧ PostE K W σ H Hf ρ Q (f n E S)
def canT (K : PySem.W.Frag) (B : Gr) (W : WX) (f : FT) : TT := fun σ H Q => ∃ n E S Hf ρ, Rel K B E S σ H Hf ρ ∧ PostT K W σ H Hf ρ Q (f n E S)
def canG (K : PySem.W.Frag) (B : Gr) (is : List Nat) (g : Tgt) : TG := fun v σ H Q => ∃ d E E' S Hf ρ, Rel K B E S σ H Hf ρ ∧ Dt K Hf ρ d v ∧ g d E = some E' ∧ (∀ σ', Rel K B E' S σ' H Hf ρ → (∀ vs, (∀ i ∈ is, i ∈ vs) → wipe σ' vs = wipe σ vs) → Q σ' H)
section
variable {X : Cx} {B : Gr} {W : WX} {e : Expr} {fe : FE} {ft : FT} {is : List Nat} {g : Tgt}
theorem QE.can (h : QE X B W e fe) : PE X e (canE X.K B W fe) := by
  obtain ⟨t, a, b⟩ := h
  exact ⟨fun pins s σ H Q I ⟨n, E, S, Hf, ρ, r, p⟩ => a.run pins s σ H Q I (b n E S σ H Hf ρ Q r p)⟩
theorem QT.can (h : QT X B W e ft) : PT X e (canT X.K B W ft) := by
  obtain ⟨t, a, b⟩ := h
  exact ⟨fun pins s σ H Q I ⟨n, E, S, Hf, ρ, r, p⟩ => a.run pins s σ H Q I (b n E S σ H Hf ρ Q r p)⟩
theorem QG.can (h : QG X B e is g) : PG X e (canG X.K B is g) := by
  obtain ⟨t, a, b⟩ := h
  exact ⟨fun pins s σ H v u Q I rv ⟨d, E, E', S, Hf, ρ, r, w, e, q⟩ => a.run pins s σ H v u Q I rv (b d E E' S σ H Hf ρ v Q r w e q)⟩
end

/-! ### what is seen within a comprehension -/
def visB (scope : Scope) (x : Str) : Bool := match scope.names.lookup x with
  | some .local => true
  | some .cell => true
  | some .free => true
  | _ => false
theorem lookup_relS_free {sc : Scope} : ∀ {names : List (Str × NameKind)} {x : Str}, names.lookup x = some .free →
    (names.map fun (n, k) => if (k == NameKind.free && sc.kind == .function && sc.names.lookup n == some .cell) then (n, NameKind.cell) else (n, k)).lookup x = some .free ∨
    (names.map fun (n, k) => if (k == NameKind.free && sc.kind == .function && sc.names.lookup n == some .cell) then (n, NameKind.cell) else (n, k)).lookup x = some .cell
  | [], _, h => by simp at h
  | (n, k) :: r, x, h => by
    rw [List.map_cons]
    by_cases e : x = n
    · subst e
      simp at h
      subst h
      dsimp only
      split <;> simp
    · have hb : (x == n) = false := by simpa using e
      rw [List.lookup_cons, hb] at h
      have ih := lookup_relS_free (sc := sc) h
      dsimp only
      split <;> (rw [List.lookup_cons, hb]; exact ih)
theorem vis_blk {scope sc : Scope} {x : Str} (h : visB scope x = true) : Vis (relS scope sc) x := by
  unfold visB at h
  split at h
  · rename_i e; exact .inl (lookup_relS_keep (by decide) e)
  · rename_i e; exact .inr (.inl (lookup_relS_keep (by decide) e))
  · rename_i e
    rcases lookup_relS_free (sc := sc) e with z | z
    · exact .inr (.inr z)
    · exact .inr (.inl z)
  · cases h
section
variable {X : Cx} {s : Shared} {H : Hp} {scope : Scope} {C : Addr} {cl : List (Str × Addr)} {fp : List Addr} {i : Nat} {x : Str}
/-- the context of a comprehension's block -/
abbrev blkX (X : Cx) (s : Shared) (H : Hp) (scope : Scope) (cl : List (Str × Addr)) (C : Addr) (fp : List Addr) : Cx := X.blk s H scope (compEnvC scope cl C X.env) fp
theorem vr_blk (hi : X.N[i]? = some x) (h : visB scope x = true) (hd : (x == ("__debug__" : Str)) = false) (hcd : (x == ("__classdict__" : Str)) = false) : Vr (blkX X s H scope cl C fp) i x :=
  ⟨hi, vis_blk (sc := X.env.scope) h, hd, hcd⟩
def glB (scope : Scope) (x : Str) : Bool := match scope.names.lookup x with
  | some .globalImplicit => true
  | _ => false
theorem gl_blk (h : glB scope x = true) : Gl (blkX X s H scope cl C fp) x := by
  unfold glB at h
  split at h
  · rename_i e; exact lookup_relS_keep (by decide) e
  · cases h
def locB (scope : Scope) (x : Str) : Bool := match scope.names.lookup x with
  | some .local => true
  | some .cell => true
  | _ => false
theorem lr_blk (nd : X.N.Nodup) (hi : X.N[i]? = some x) (h : locB scope x = true) : Lr (blkX X s H scope cl C fp) i x := by
  unfold locB at h
  split at h
  · rename_i e
    have z : (relS scope X.env.scope).names.lookup x = some .local := lookup_relS_keep (by decide) e
    exact ⟨nd, hi, .inl z, .inr z⟩
  · rename_i e
    have z : (relS scope X.env.scope).names.lookup x = some .cell := lookup_relS_keep (by decide) e
    exact ⟨nd, hi, .inr z, .inl (by show (scope.names.lookup x == some .cell) = true; rw [e]; rfl)⟩
  · cases h
end

/-! ### [e for x in xs if t] -/
def wipeE (E : Env) : List Nat → Env
  | [] => E
  | v :: vs => (wipeE E vs).set v none
theorem Rel.wipe {K : PySem.W.Frag} {B : Gr} {E : Env} {S : Store} {σ : L2.St} {H Hf : Hp} {ρ : List Addr} (r : Rel K B E S σ H Hf ρ) : ∀ vs : List Nat, Rel K B (wipeE E vs) S (L2.wipe σ vs) H Hf ρ
  | [] => r
  | v :: vs => by
    have q := Rel.wipe r vs
    unfold wipeE L2.wipe
    refine ⟨q.hr, q.tr, by simp [q.len], fun j s e => ?_, fun j k a d1 d2 e1 e2 e3 e4 => ?_⟩
    · rcases get_set_own e with ⟨rfl, e, hl⟩ | ⟨hj, e⟩
      · cases e
      · rw [List.getElem?_set_ne hj]
        exact q.sl j s e
    · rcases get_set_own e1 with ⟨rfl, x1, hl⟩ | ⟨hj, e1⟩
      · cases x1
      · rcases get_set_own e2 with ⟨rfl, x2, hl2⟩ | ⟨hk, e2⟩
        · cases x2
        · rw [List.getElem?_set_ne hj] at e3
          rw [List.getElem?_set_ne hk] at e4
          exact q.dis j k a d1 d2 e1 e2 e3 e4
/-- .. without errors -/
def Res.bindN {α β : Type} (r : Res α) (k : α → Store → Res β) : Res β := match r with
  | .ok a S => k a S
  | _ => .stk
def lcL (g : Tgt) (c : Env → Store → Res Bool) (e : Env → Store → Res D) : List D → Env → Store → Res (List D)
  | [], _, S => .ok [] S
  | d :: ds, E, S => match g d E with
    | none => .stk
    | some E1 => (c E1 S).bindN fun k S1 => match k with
      | true => (e E1 S1).bindN fun v S2 => (lcL g c e ds E S2).bindN fun vs S3 => .ok (v :: vs) S3
      | false => lcL g c e ds E S1
def fLc (it : FA) (g : Tgt) (c : FT) (e : FE) (vs : List Nat) : FE := fun n E S => (it n E S).bind fun ds S1 =>
  if ds.length ≤ 1000000 then (lcL g (c n) (e n) ds (wipeE E vs) S1).bindN fun l S2 => .ok (.lst l) S2 else .stk
def fYes : FT := fun _ _ S => .ok true S
def W0 : WX := fun _ _ _ _ => False
theorem Res.bindN_ok {α β : Type} {r : Res α} {k : α → Store → Res β} {b : β} {S : Store} (h : r.bindN k = .ok b S) : ∃ a S1, r = .ok a S1 ∧ k a S1 = .ok b S := by
  cases r with
  | ok a S1 => exact ⟨a, S1, rfl, h⟩
  | exc x S1 => cases h
  | stk => cases h
section
variable {X : Cx} {B : Gr} {W : WX} {fi : FA} {g : Tgt} {ft : FT} {fe : FE} {is : List Nat} {own : List (Str × Nat)}
theorem lc_read {wi : TI} (i2 : ∀ n E S σ H Hf ρ R, Rel X.K B E S σ H Hf ρ → PostI X.K W σ H Hf ρ R (fi n E S) → wi σ H R) (hw : ∀ i ∈ is, i ∈ own.map (·.2))
    (n : Nat) (E : Env) (S : Store) (σ : L2.St) (H Hf : Hp) (ρ : List Addr) (Q : VK) (r : Rel X.K B E S σ H Hf ρ) (p : PostF X.K W σ H Hf ρ Q (fLc fi g ft fe (own.map (·.2)) n E S)) :
    tLc wi (canG X.K B is g) (canT X.K B W0 ft) (canE X.K B W0 fe) (own.map (·.2)) σ H Q := by
  refine i2 n E S σ H Hf ρ _ r ?_
  unfold fLc at p
  cases e1 : fi n E S with
  | stk => rw [e1] at p; exact p
  | exc y S1 => rw [e1] at p; exact p
  | ok ds S1 =>
    rw [e1] at p
    intro J H1 Hf1 ρ1 hr1 t1 wk D hD
    have p : PostF X.K W σ H Hf ρ Q (if ds.length ≤ 1000000 then (lcL g (ft n) (fe n) ds (wipeE E (own.map (·.2))) S1).bindN fun l S2 => .ok (.lst l) S2 else .stk) := p
    by_cases hl : ds.length ≤ 1000000
    · rw [if_pos hl] at p
      cases el : lcL g (ft n) (fe n) ds (wipeE E (own.map (·.2))) S1 with
      | stk => rw [el] at p; exact p.elim
      | exc y S2 => rw [el] at p; exact p.elim
      | ok L Se =>
        rw [el] at p
        generalize hEw : wipeE E (own.map (·.2)) = Ew at el
        have rw0 : Rel X.K B Ew S (wipe σ (own.map (·.2))) H Hf ρ := hEw ▸ r.wipe (own.map (·.2))
        let Wi : Nat → Nat → Hp → Prop := fun i m H2 => ∃ S2 Hf2 ρ2 acc accV l, HR X.K H2 Hf2 ρ2 S2 ∧ Tr H1 Hf1 ρ1 H2 Hf2 ρ2 ∧ H2 D = some (.lst accV) ∧ Hf2 D = none ∧ D ∉ ρ2 ∧ Dts X.K Hf2 ρ2 acc accV ∧
          m = ds.length - i ∧ acc.length ≤ i ∧ lcL g (ft n) (fe n) (ds.drop i) Ew S2 = .ok l Se ∧ L = acc ++ l
        refine ⟨Wi, ⟨ds.length, S1, Hf1, ρ1, [], [], L, hr1.own (hr1.hnone hD) (hr1.notin hD), Tr.own hD, upd_same, hr1.hnone hD, hr1.notin hD, rfl, by simp, Nat.le_refl _, by simpa using el, rfl⟩, ?_⟩
        rintro i m H2 ⟨S2, Hf2, ρ2, acc, accV, l, hr2, t2, hD2, hfD, hDn, wacc, rfl, hai, ell, eL⟩
        obtain ⟨k1, k2⟩ := wk H2 Hf2 ρ2 S2 hr2 t2.hf t2.pre i
        by_cases hi : i < ds.length
        · obtain ⟨go, yl⟩ := k1 ds[i] (List.getElem?_eq_getElem hi)
          have ed : ds.drop i = ds[i] :: ds.drop (i + 1) := List.drop_eq_getElem_cons hi
          rw [ed] at ell
          refine .inr ⟨go, Wi (i + 1) (ds.length - (i + 1)), fun H' w => ⟨ds.length - (i + 1), by omega, w⟩, fun x H3 y => ?_⟩
          obtain ⟨Hf3, hr3, t3, w3⟩ := yl x H3 y
          -- what stands at D stays through a step
          have stay : ∀ {Ha Hfa : Hp} {ρa : List Addr} {Hb Hfb : Hp} {ρb : List Addr}, Tr Ha Hfa ρa Hb Hfb ρb → Ha D = some (.lst accV) → Hfa D = none → D ∉ ρa → Hb D = some (.lst accV) ∧ Hfb D = none ∧ D ∉ ρb := fun {Ha Hfa ρa Hb Hfb ρb} t a1 a2 a3 => by
            refine ⟨t.keep _ _ a1 a3, ?_, fun z => ?_⟩
            · cases z : Hfb D with
              | none => rfl
              | some u =>
                rcases t.fresh D (by rw [z]; simp) with q | q
                · exact absurd a2 q
                · rw [a1] at q; cases q
            · rcases t.newh D z with q | q
              · exact a3 q
              · rw [a1] at q; cases q
          obtain ⟨b1, b2, b3⟩ := stay t3 hD2 hfD hDn
          have r3 := rw0.step hr3 ((t1.trans t2).trans t3)
          unfold lcL at ell
          cases eg : g ds[i] Ew with
          | none => rw [eg] at ell; cases ell
          | some E3 =>
            rw [eg] at ell
            obtain ⟨k, S4, ec, ell⟩ := Res.bindN_ok ell
            refine ⟨ds[i], Ew, E3, S2, Hf3, ρ2, r3, w3, eg, fun σ4 r4 hwp => ⟨hwp _ hw |>.trans ?_, n, E3, S2, Hf3, ρ2, r4, ?_⟩⟩
            · clear hwp r4 r3 rw0
              generalize own.map (·.2) = vs
              -- wiping twice
              have z : ∀ (vs : List Nat) (τ : L2.St) (v : Nat), v ∈ vs → (wipe τ vs).set v none = wipe τ vs := by
                intro vs
                induction vs with
                | nil => intro τ v hv; cases hv
                | cons w ws ih =>
                  intro τ v hv
                  unfold wipe
                  rcases List.mem_cons.mp hv with rfl | hv
                  · rw [List.set_set]
                  · by_cases hvw : v = w
                    · subst hvw; rw [List.set_set]
                    · rw [List.set_comm _ _ (Ne.symm hvw), ih τ v hv]
              have z2 : ∀ (us vs : List Nat) (τ : L2.St), (∀ v ∈ us, v ∈ vs) → wipe (wipe τ vs) us = wipe τ vs := by
                intro us
                induction us with
                | nil => intro vs τ _; rfl
                | cons w ws ih =>
                  intro vs τ hv
                  show (wipe (wipe τ vs) ws).set w none = wipe τ vs
                  rw [ih vs τ fun v h => hv v (List.mem_cons_of_mem _ h), z vs τ w (hv w List.mem_cons_self)]
              exact z2 vs vs σ fun _ h => h
            · rw [ec]
              intro H4 Hf4 ρ4 hr4 t4
              obtain ⟨c1, c2, c3⟩ := stay t4 b1 b2 b3
              cases k with
              | false =>
                rw [if_neg Bool.false_ne_true]
                exact ⟨S4, Hf4, ρ4, acc, accV, l, hr4, (t2.trans t3).trans t4, c1, c2, c3, wacc.mono (t3.hf.trans t4.hf) (t3.pre.trans t4.pre), rfl, by omega, ell, eL⟩
              | true =>
                rw [if_pos rfl]
                obtain ⟨v, S5, ev, ell⟩ := Res.bindN_ok ell
                obtain ⟨ws, S6, ews, ell⟩ := Res.bindN_ok ell
                cases ell
                refine ⟨n, E3, S4, Hf4, ρ4, r4.step hr4 t4, ?_⟩
                rw [ev]
                intro y H5 Hf5 ρ5 hr5 t5 w5
                obtain ⟨d1, d2, d3⟩ := stay t5 c1 c2 c3
                refine ⟨accV, d1, ?_, ?_⟩
                · rw [← wacc.length]; exact Nat.lt_of_lt_of_le (show acc.length < 1000001 by omega) (by decide)
                · have tA := ((t2.trans t3).trans t4).trans t5
                  refine ⟨S5, Hf5, ρ5, acc ++ [v], accV ++ [y], ws, hr5.own d2 d3, ⟨tA.hf, tA.pre, fun a o ha hn => ?_, tA.fresh, tA.newh, fun a ha => ?_⟩, upd_same, d2, d3, ?_, rfl, ?_, ews, ?_⟩
                  · have : a ≠ D := fun z => by subst z; rw [hD] at ha; cases ha
                    rw [upd_ne this]; exact tA.keep a o ha hn
                  · by_cases z : a = D
                    · subst z; rw [upd_same]; simp
                    · rw [upd_ne z]; exact tA.alive a ha
                  · exact (wacc.mono ((t3.hf.trans t4.hf).trans t5.hf) ((t3.pre.trans t4.pre).trans t5.pre)).append (Dts.one w5)
                  · rw [List.length_append, List.length_singleton]; omega
                  · rw [eL, List.append_assoc]; rfl
        · refine .inl ⟨k2 (by omega), ?_⟩
          rw [List.drop_eq_nil_of_le (by omega)] at ell
          cases ell
          rw [List.append_nil] at eL
          subst eL
          have nH : H D = none := by
            cases z : H D with
            | none => rfl
            | some o => exact absurd hD (t1.alive D (by rw [z]; simp))
          exact p D H2 Hf2 ρ2 hr2 (t1.trans t2) nH hfD hDn ⟨accV, hD2, wacc⟩
    · rw [if_neg hl] at p; exact p.elim
end
section
variable {X : Cx} {B : Gr} {W : WX} {tg it elt c : Expr} {scope : Scope} {own : List (Str × Nat)} {pos spos py : Pos} {is : List Nat} {fi : FA} {g : Tgt} {ft : FT} {fe : FE} {i : Nat} {y : Str}
theorem t_yes {X : Cx} : PTs X [] (canT X.K B W0 fYes) :=
  ⟨fun pins s σ H Q I ⟨n, E, S, Hf, ρ, r, p⟩ => (pts_nil (X := X)).run pins s σ H Q I (p H Hf ρ r.hr (Tr.refl _ _ _))⟩
/-- a comprehension without a test -/
theorem f_lc (cc : Cc X W) (hi : QI X B W tg it fi) (ok : blkC X.N X.env.scope scope own = true)
    (hg : ∀ (s : Shared) (H : Hp) (C : Addr) (cl : List (Str × Addr)) (fp : List Addr), QG (blkX X s H scope cl C fp) B tg is g)
    (he : ∀ (s : Shared) (H : Hp) (C : Addr) (cl : List (Str × Addr)) (fp : List Addr), QE (blkX X s H scope cl C fp) B W0 elt fe) (hw : ∀ i ∈ is, i ∈ own.map (·.2)) (hs : ∀ x, foldedSetIterable it X.env x = pure x) :
    QF X B W (.ListComp elt [⟨tg, it, [], 0⟩] scope pos) (fLc fi g fYes fe (own.map (·.2))) := by
  obtain ⟨wi, i1, i2⟩ := hi
  exact ⟨_, pe_lc cc.calm cc.nd i1 (blkOk_by ok) (fun s H C cl fp => (hg s H C cl fp).can) (fun s H C cl fp => t_yes) (fun s H C cl fp => (he s H C cl fp).can) hs, lc_read i2 hw⟩
/-- .. with one -/
theorem f_lcT (cc : Cc X W) (hi : QI X B W tg it fi) (ok : blkC X.N X.env.scope scope own = true)
    (hg : ∀ (s : Shared) (H : Hp) (C : Addr) (cl : List (Str × Addr)) (fp : List Addr), QG (blkX X s H scope cl C fp) B tg is g)
    (hc : ∀ (s : Shared) (H : Hp) (C : Addr) (cl : List (Str × Addr)) (fp : List Addr), QT (blkX X s H scope cl C fp) B W0 c ft)
    (he : ∀ (s : Shared) (H : Hp) (C : Addr) (cl : List (Str × Addr)) (fp : List Addr), QE (blkX X s H scope cl C fp) B W0 elt fe) (hw : ∀ i ∈ is, i ∈ own.map (·.2)) (hs : ∀ x, foldedSetIterable it X.env x = pure x) :
    QF X B W (.ListComp elt [⟨tg, it, [c], 0⟩] scope pos) (fLc fi g ft fe (own.map (·.2))) := by
  obtain ⟨wi, i1, i2⟩ := hi
  exact ⟨_, pe_lc cc.calm cc.nd i1 (blkOk_by ok) (fun s H C cl fp => (hg s H C cl fp).can) (fun s H C cl fp => pts_one (hc s H C cl fp).can) (fun s H C cl fp => (he s H C cl fp).can) hs, lc_read i2 hw⟩
theorem fLc_lst {it : FA} {g : Tgt} {c : FT} {e : FE} {vs : List Nat} {n : Nat} {E : Env} {S : Store} (d : D) (S1 : Store) (h : fLc it g c e vs n E S = .ok d S1) (l : List (Key × D)) : d ≠ .dct l := by
  unfold fLc at h
  cases e1 : it n E S with
  | stk => rw [e1] at h; cases h
  | exc y S2 => rw [e1] at h; cases h
  | ok ds S2 =>
    rw [e1] at h
    have h : (if ds.length ≤ 1000000 then (lcL g (c n) (e n) ds (wipeE E vs) S2).bindN fun l S2 => Res.ok (D.lst l) S2 else .stk) = .ok d S1 := h
    by_cases hl : ds.length ≤ 1000000
    · rw [if_pos hl] at h
      cases e2 : lcL g (c n) (e n) ds (wipeE E vs) S2 with
      | stk => rw [e2] at h; cases h
      | exc y S3 => rw [e2] at h; cases h
      | ok l2 S3 => rw [e2] at h; cases h; intro z; cases z
    · rw [if_neg hl] at h; cases h
theorem set_fz {n : Nat} {E : Env} {S : Store} {σ : L2.St} {H Hf : Hp} {ρ : List Addr} {Q : Ends} (hn : ∀ d S1, fe n E S = .ok d S1 → ∀ l, d ≠ .dct l) (r : Rel X.K B E S σ H Hf ρ) (p : PostS X.K W B Hf ρ Q (fSet i fe n E S)) :
    PostF X.K W σ H Hf ρ (fun x H1 => gName i x σ H1 Q.nx) (fe n E S) := by
  refine PostE.ofFn hn ?_
  unfold fSet at p
  cases e1 : fe n E S with
  | stk => rw [e1] at p; exact p
  | exc y S1 => rw [e1] at p; exact fun c od H' Hf' ρ' a b d => p c od σ H' Hf' ρ' (r.step a b) b.hf b.pre d
  | ok d S1 => rw [e1] at p; exact fun v H' Hf' ρ' a b w => p _ _ _ _ ((r.step a b).set i w) b.hf b.pre
/-- y = [..] on one line, y a plain local name -/
theorem s_setLc (cc : Cc X W) (ly : Ll X i y) (hl : (py.line == pos.line) = true) (hsh : (scope.names.any fun (n, k) => n == y && (k == .local || k == .cell)) = false) (hi : QI X B W tg it fi) (ok : blkC X.N X.env.scope scope own = true)
    (hg : ∀ (s : Shared) (H : Hp) (C : Addr) (cl : List (Str × Addr)) (fp : List Addr), QG (blkX X s H scope cl C fp) B tg is g)
    (he : ∀ (s : Shared) (H : Hp) (C : Addr) (cl : List (Str × Addr)) (fp : List Addr), QE (blkX X s H scope cl C fp) B W0 elt fe) (hw : ∀ i ∈ is, i ∈ own.map (·.2)) (hs : ∀ x, foldedSetIterable it X.env x = pure x) :
    QS X B W (.Assign [.Name y py] (.ListComp elt [⟨tg, it, [], 0⟩] scope pos) spos) (fSet i (fLc fi g fYes fe (own.map (·.2)))) := by
  obtain ⟨wi, i1, i2⟩ := hi
  exact ⟨_, ps_setLc cc.calm cc.nd ly.ix ly.loc (sw_true cc.kd ly.loc hl hsh) i1 (blkOk_by ok) (fun s H C cl fp => (hg s H C cl fp).can) (fun s H C cl fp => t_yes) (fun s H C cl fp => (he s H C cl fp).can) hs,
    fun n E S σ H Hf ρ Q r p => lc_read i2 hw n E S σ H Hf ρ _ r (set_fz fLc_lst r p)⟩
theorem s_setLcT (cc : Cc X W) (ly : Ll X i y) (hl : (py.line == pos.line) = true) (hsh : (scope.names.any fun (n, k) => n == y && (k == .local || k == .cell)) = false) (hi : QI X B W tg it fi) (ok : blkC X.N X.env.scope scope own = true)
    (hg : ∀ (s : Shared) (H : Hp) (C : Addr) (cl : List (Str × Addr)) (fp : List Addr), QG (blkX X s H scope cl C fp) B tg is g)
    (hc : ∀ (s : Shared) (H : Hp) (C : Addr) (cl : List (Str × Addr)) (fp : List Addr), QT (blkX X s H scope cl C fp) B W0 c ft)
    (he : ∀ (s : Shared) (H : Hp) (C : Addr) (cl : List (Str × Addr)) (fp : List Addr), QE (blkX X s H scope cl C fp) B W0 elt fe) (hw : ∀ i ∈ is, i ∈ own.map (·.2)) (hs : ∀ x, foldedSetIterable it X.env x = pure x) :
    QS X B W (.Assign [.Name y py] (.ListComp elt [⟨tg, it, [c], 0⟩] scope pos) spos) (fSet i (fLc fi g ft fe (own.map (·.2)))) := by
  obtain ⟨wi, i1, i2⟩ := hi
  exact ⟨_, ps_setLc cc.calm cc.nd ly.ix ly.loc (sw_true cc.kd ly.loc hl hsh) i1 (blkOk_by ok) (fun s H C cl fp => (hg s H C cl fp).can) (fun s H C cl fp => pts_one (hc s H C cl fp).can) (fun s H C cl fp => (he s H C cl fp).can) hs,
    fun n E S σ H Hf ρ Q r p => lc_read i2 hw n E S σ H Hf ρ _ r (set_fz fLc_lst r p)⟩
/-- a captured name's comprehension is stored as any value -/
theorem sw_cell {env : PySem.Env} {gs : List Comprehension} {l : Nat} (h : env.scope.names.lookup y = some .cell) : swapsWith (.ListComp elt gs scope pos) (some (.Name y py)) l env = pure false := by
  have k : env.kindOf y = some .cell := h
  unfold swapsWith
  simp [k, show (NameKind.cell == NameKind.local) = false from rfl]
end

/-! ### a def keeps its promise by its body's function -/
def startE (N : List Str) (ds : List D) : Env := ds.map (fun d => some (.fz d)) ++ List.replicate (N.length - ds.length) none
/-- what a body's end is worth -/
def bodyR : SRes → Res D
  | .nx _ S => .ok .non S
  | .rt d S => .ok d S
  | .ex x _ S => .exc x S
  | _ => .stk
theorem bodyR_nx {b : SRes} {d : D} {S : Store} (h : bodyR b = .ok d S) : b = .rt d S ∨ ∃ E, b = .nx E S ∧ d = .non := by
  cases b <;> cases h
  · exact .inr ⟨_, rfl, rfl⟩
  · exact .inl rfl
theorem start_rel {K : PySem.W.Frag} {H Hf : Hp} {ρ : List Addr} {S : Store} {N : List Str} {ds : List D} {vs : List V} (hr : HR K H Hf ρ S) (w : Dts K Hf ρ ds vs) : Rel K ⟨H, Hf, ρ⟩ (startE N ds) S (L2.start N vs) H Hf ρ := by
  refine ⟨hr, Tr.refl _ _ _, ?_, fun i s e => ?_, fun i j a d e h1 _ _ _ => ?_⟩
  · unfold startE L2.start
    rw [List.length_append, List.length_append, List.length_map, List.length_map, List.length_replicate, List.length_replicate, w.length]
  · unfold startE at e
    by_cases hi : i < ds.length
    · rw [List.getElem?_append_left (by simpa using hi), List.getElem?_map, List.getElem?_eq_getElem hi] at e
      cases e
      obtain ⟨v, e1, e2⟩ := w.get (List.getElem?_eq_getElem hi)
      refine ⟨v, ?_, e2⟩
      unfold L2.start
      rw [List.getElem?_append_left (by rw [List.length_map, ← w.length]; exact hi), List.getElem?_map, e1]
      rfl
    · rw [List.getElem?_append_right (by simpa using hi), List.getElem?_replicate] at e
      split at e <;> cases e
  · unfold startE at h1
    by_cases hi : i < ds.length
    · rw [List.getElem?_append_left (by simpa using hi), List.getElem?_map, List.getElem?_eq_getElem hi] at h1
      cases h1
    · rw [List.getElem?_append_right (by simpa using hi), List.getElem?_replicate] at h1
      split at h1 <;> cases h1
/-- what a body's derivation may use of its context -/
structure Wd (X : Cx) (P : Program) (w : World) (K : PySem.W.Frag) (mg : Str → Option Value) (base : Heap) (k : Nat) : Prop where
  hP : X.prog = P
  hw : X.w = w
  hK : X.K = K
  hmg : X.mg = mg
  hb : X.base = base
  room : Room k X.A
structure Bd (X : Cx) (W : WX) (P : Program) (w : World) (K : PySem.W.Frag) (mg : Str → Option Value) (base : Heap) (k : Nat) (N : List Str) (sc : Scope) : Prop where
  cc : Cc X W
  wd : Wd X P w K mg base k
  hN : X.N = N
  hsc : X.env.scope = sc
  fn : ∀ x, X.fn x = true
section
variable {X : Cx} {W : WX} {P : Program} {w : World} {K : PySem.W.Frag} {mg : Str → Option Value} {base : Heap} {k : Nat} {N : List Str} {sc : Scope} {i : Nat} {x : Str}
theorem Wd.blk (h : Wd X P w K mg base k) {s : Shared} {H : Hp} {scope : Scope} {cl : List (Str × Addr)} {C : Addr} {fp : List Addr} : Wd (blkX X s H scope cl C fp) P w K mg base k := ⟨h.hP, h.hw, h.hK, h.hmg, h.hb, h.room⟩
theorem Cc.blk (h : Cc X W) {s : Shared} {H : Hp} {scope : Scope} {cl : List (Str × Addr)} {C : Addr} {fp : List Addr} (hk : scope.kind = .function) : Cc (blkX X s H scope cl C fp) W0 := ⟨takes0, PassesOwn.never, h.calm, hk, h.nd⟩
/-- neither of the two names that are no names -/
def nmB (x : Str) : Bool := !(x == ("__debug__" : Str)) && !(x == ("__classdict__" : Str)) && !(x == ("__name__" : Str))
theorem nm_db (h : nmB x = true) : (x == ("__debug__" : Str)) = false := by
  unfold nmB at h; simp only [Bool.and_eq_true, Bool.not_eq_true'] at h; exact h.1.1
theorem nm_cd (h : nmB x = true) : (x == ("__classdict__" : Str)) = false := by
  unfold nmB at h; simp only [Bool.and_eq_true, Bool.not_eq_true'] at h; exact h.1.2
theorem nm_nm (h : nmB x = true) : x ≠ "__name__" := by
  unfold nmB at h; simp only [Bool.and_eq_true, Bool.not_eq_true'] at h; exact fun z => by rw [z] at h; simp at h
theorem Bd.vr (h : Bd X W P w K mg base k N sc) (hi : N[i]? = some x) (hv : (visB sc x && nmB x) = true) : Vr X i x := by
  rw [Bool.and_eq_true] at hv
  refine ⟨by rw [h.hN]; exact hi, ?_, nm_db hv.2, nm_cd hv.2⟩
  rw [h.hsc]
  have q := hv.1
  unfold visB at q
  split at q
  · rename_i e; exact .inl e
  · rename_i e; exact .inr (.inl e)
  · rename_i e; exact .inr (.inr e)
  · cases q
theorem Bd.lr (h : Bd X W P w K mg base k N sc) (hi : N[i]? = some x) (hv : locB sc x = true) : Lr X i x := by
  refine ⟨h.cc.nd, by rw [h.hN]; exact hi, ?_, .inl (h.fn x)⟩
  rw [h.hsc]
  unfold locB at hv
  split at hv
  · rename_i e; exact .inl e
  · rename_i e; exact .inr e
  · cases hv
theorem Bd.ll (h : Bd X W P w K mg base k N sc) (hi : N[i]? = some x) (hv : sc.names.lookup x = some .local) : Ll X i x := ⟨by rw [h.hN]; exact hi, by rw [h.hsc]; exact hv⟩
theorem Bd.gl (h : Bd X W P w K mg base k N sc) (hv : glB sc x = true) : Gl X x := by
  unfold glB at hv
  split at hv
  · rename_i e; show X.env.scope.names.lookup x = _; rw [h.hsc]; exact e
  · cases hv
/-- the module's def x -/
structure CalleeK (P : Program) (w : World) (K : PySem.W.Frag) (mg : Str → Option Value) (base : Heap) (x : Str) (k : Nat) (np : Nat) (m : MF) : Prop where
  ex : ∃ f, mg x = some (.ref f) ∧ FnD P w K mg base k f np m
theorem Wd.callee {j np : Nat} {m : MF} (h : Wd X P w K mg base k) (c : CalleeK P w K mg base x j np m) (g : Gl X x) (hd : nmB x = true) : Callee X x j np m := by
  obtain ⟨h1, h2, h3, h4, h5, _⟩ := h
  subst h1 h2 h3 h4 h5
  exact ⟨g, nm_db hd, c.ex⟩
theorem Wd.blt (h : Wd X P w K mg base k) (c : mg x = none) (g : Gl X x) : Blt X x := ⟨g, by rw [h.hmg]; exact c⟩
theorem Wd.gint {z : Int} (h : Wd X P w K mg base k) (c : ∃ t, mg x = some (.int z t)) : ∃ t, X.mg x = some (.int z t) := by rw [h.hmg]; exact c
theorem Wd.gstr {z : Str} (h : Wd X P w K mg base k) (c : ∃ t, mg x = some (.str z t)) : ∃ t, X.mg x = some (.str z t) := by rw [h.hmg]; exact c
theorem Wd.gref (h : Wd X P w K mg base k) (c : mg x = some (.ref (He.ga K x))) : X.mg x = some (.ref (He.ga X.K x)) := by rw [h.hmg, h.hK]; exact c
theorem Wd.hu (h : Wd X P w K mg base k) : X.A.units + 64 < cLine := h.room.units
theorem Wd.exc (h : Wd X P w K mg base k) (g : Gl X x) (hd : nmB x = true) (c : mg x = some (.ref (He.ga K x))) (e : (He.Fa.exc x).ok K = true) : ExcC X x := by
  obtain ⟨h1, h2, h3, h4, h5, _⟩ := h
  subst h1 h2 h3 h4 h5
  have e : (PySem.W.excIn X.K (He.ga X.K x) He.veBase "ValueError.__new__" && (PySem.W.keepIn X.K (.ref (He.ga X.K x)) && (decide (PySem.W.subIn X.K (.ref (He.ga X.K x)) (.type "BaseException") = some true) && decide (PySem.W.typeIn X.K (.ref (He.ga X.K x)) = some (.type "type"))))) = true := e
  simp only [Bool.and_eq_true, decide_eq_true_eq] at e
  exact ⟨g, c, e.1, e.2.1, e.2.2.1, e.2.2.2, nm_db hd⟩
end
theorem fnOk_of {P : Program} {w : World} {K : PySem.W.Frag} {mg : Str → Option Value} {base : Heap} {x qual : Str} {params : Arguments} {body : List Stmt} {scope : Scope} {f : Addr} {fd : FuncData} {N ps : List Str} {k np : Nat} {m : MF} {fb : FS}
    (F : FunD K x qual params body scope [] [] f fd) (S : FnScope N ps scope) (hp : ps.length = np)
    (der : ∀ (X : Cx) (B : Gr) (W : WX), Bd X W P w K mg base k N scope → QSs X B W body fb)
    (impl : ∀ ds S, ds.length = np → m ds S ≠ .stk → ∃ n, bodyR (fb n (startE N ds) S) = m ds S) : FnOk P w K mg base (L2.CX P w) (k + 1) f fd ps (spD K np m) := by
  subst hp
  refine F.ok S (fun vs H Q E h => ?_) (fun cdv A outer s H vs Q E hr h => ?_)
  · obtain ⟨ds, St, Hf, ρ, h1, h2, h3, h4⟩ := h
    rw [← h3.length, h1]
  · obtain ⟨ds, St, Hf, ρ, h1, h2, h3, h4⟩ := h
    have d := der (cxOf (L2.CX P w) P w K mg base N qual scope f cdv A outer s H E) ⟨H, Hf, ρ⟩ (fun c d _ H => E c d H)
      ⟨⟨takes_of rfl rfl rfl rfl, passes_of rfl, rfl, S.kind, S.nd⟩, ⟨rfl, rfl, rfl, rfl, rfl, hr⟩, rfl, rfl, fun _ => rfl⟩
    obtain ⟨t, a, b⟩ := d
    refine ⟨t, a, ?_⟩
    have hm : m ds St ≠ .stk := fun z => by rw [z] at h4; exact h4
    obtain ⟨n, e⟩ := impl ds St h1 hm
    refine b n (startE N ds) St (L2.start N vs) H Hf ρ _ (start_rel h2 h3) ?_
    rw [← e] at h4
    cases eb : fb n (startE N ds) St with
    | nx E' S' => rw [eb] at h4; exact fun σ' H' Hf' ρ' r _ _ => h4 .non H' Hf' ρ' r.hr r.tr rfl
    | rt d S' => rw [eb] at h4; exact fun v H' Hf' ρ' a b c => h4 v H' Hf' ρ' a b c
    | bk E' S' => rw [eb] at h4; exact h4.elim
    | ct E' S' => rw [eb] at h4; exact h4.elim
    | ex y E' S' => rw [eb] at h4; exact fun c od σ' H' Hf' ρ' r _ _ z => h4 c od H' Hf' ρ' r.hr r.tr z
    | stk => rw [eb] at h4; exact h4.elim
theorem fnD_of {P : Program} {w : World} {K : PySem.W.Frag} {mg : Str → Option Value} {base : Heap} {x qual : Str} {params : Arguments} {body : List Stmt} {scope : Scope} {f : Addr} {fd : FuncData} {N ps : List Str} {k np : Nat} {m : MF} {fb : FS}
    (F : FunD K x qual params body scope [] [] f fd) (S : FnScope N ps scope) (hp : ps.length = np) (hb : Binds K fd ps [])
    (der : ∀ (X : Cx) (B : Gr) (W : WX), Bd X W P w K mg base k N scope → QSs X B W body fb)
    (impl : ∀ ds S, ds.length = np → m ds S ≠ .stk → ∃ n, bodyR (fb n (startE N ds) S) = m ds S) : FnD P w K mg base (k + 1) f np m :=
  ⟨fd, ps, hp, fnOk_of F S hp der impl, F.kp, hb⟩
/-- what the head tells -/
structure Hd (fa : List He.Fa) (fn : List He.DefD) (K : PySem.W.Frag) (mg : Str → Option Value) : Prop where
  ex : ∃ h : Heap, K.In h ∧ h.Ns mainGlobals mg
  c : He.SaysD fa fn K
section
variable {fa : List He.Fa} {fn : List He.DefD} {K : PySem.W.Frag} {mg : Str → Option Value} {x : Str}
theorem Hd.glo (T : Hd fa fn K mg) (i : Nat) (h : fa[i]? = some (.glo x)) : mg x = some (.ref (He.ga K x)) := by
  obtain ⟨hp, X, G⟩ := T.ex
  exact He.glo_ok X G (T.c.fact i h)
theorem Hd.free (T : Hd fa fn K mg) (i : Nat) (h : fa[i]? = some (.free x)) : mg x = none := by
  obtain ⟨hp, X, G⟩ := T.ex
  exact He.free_ok X G (T.c.fact i h)
theorem Hd.int (T : Hd fa fn K mg) (i : Nat) {z : Int} (h : fa[i]? = some (.int x z)) : ∃ t, mg x = some (.int z t) := by
  obtain ⟨hp, X, G⟩ := T.ex
  exact He.int_ok X G (T.c.fact i h)
theorem Hd.exc (T : Hd fa fn K mg) (i : Nat) (h : fa[i]? = some (.exc x)) : (He.Fa.exc x).ok K = true := T.c.fact i h
/-- a def of the text, by its function -/
theorem Hd.callee {P : Program} {w : World} {base : Heap} {params : Arguments} {body : List Stmt} {scope : Scope} {N ps : List Str} {k np : Nat} {m : MF} {fb : FS} {nm qual : Str} (T : Hd fa fn K mg) (i j : Nat) (h : fa[i]? = some (.glo x))
    (hd : fn[j]? = some ⟨(x, none), nm, qual, params, body, scope, [], []⟩) (S : FnScope N ps scope) (hp : ps.length = np)
    (hb : ∀ (kV doc pm : Value) (an : Option Addr) (cdv ct : Value) (us : List Value), us.length = ps.length → bindArgs (PySem.W.fnOf nm qual params body scope .none kV doc pm an cdv ct) ⟨us, []⟩ = pure (ps.zip us))
    (der : ∀ (X : Cx) (B : Gr) (W : WX), Bd X W P w K mg base k N scope → QSs X B W body fb)
    (impl : ∀ ds S, ds.length = np → m ds S ≠ .stk → ∃ n, bodyR (fb n (startE N ds) S) = m ds S) : CalleeK P w K mg base x (k + 1) np m := by
  obtain ⟨fd, F⟩ := T.c.def_ j hd
  refine ⟨_, T.glo i h, fnD_of (f := He.ga K x) F S hp (FunD.bindsN F hb) der impl⟩
end
end DL

end

section
set_option autoImplicit false
set_option autoImplicit false
namespace DL
open PySem PySem.Spec PyProof.Rows L2

/-! ### - a -/
def gNeg : D → Option D
  | .int i => some (.int (-i))
  | _ => none
def fUn (g : D → Option D) (f : FE) : FE := fun n E S => (f n E S).bind fun d S1 => match g d with
  | some r => .ok r S1
  | none => .stk
section
variable {X : Cx} {B : Gr} {W : WX} {pos : Pos} {a b : Expr} {fa fb : FE}
theorem q_neg (ha : QE X B W a fa) : QE X B W (.UnaryOp .USub a pos) (fUn gNeg fa) := by
  obtain ⟨t, h1, h2⟩ := ha
  refine ⟨_, pe_un un_neg h1, fun n E S σ H Hf ρ Q r p => h2 n E S σ H Hf ρ _ r ?_⟩
  unfold fUn at p
  cases e : fa n E S with
  | stk => rw [e] at p; exact p
  | exc x S1 => rw [e] at p; exact p
  | ok d S1 =>
    rw [e] at p
    intro v H' Hf' ρ' h1 h2 h3
    cases d <;> try exact p.elim
    rename_i z
    exact ⟨z, h3, p _ H' Hf' ρ' h1 h2 rfl⟩
end

/-! ### x in xs, of flat things -/
def flatD : D → Bool
  | .non => true
  | .bl _ => true
  | .int _ => true
  | .str _ => true
  | _ => false
/-- == of flat things -/
def eqF : D → D → Bool
  | .non, .non => true
  | .bl a, .bl b => a == b
  | .bl a, .int b => (if a then 1 else 0) == b
  | .int a, .bl b => a == (if b then 1 else 0)
  | .int a, .int b => a == b
  | .str a, .str b => a == b
  | _, _ => false
def inF (x : D) (l : List D) : Bool := l.any fun y => eqF y x
section
variable {K : PySem.W.Frag} {H Hf : Hp} {ρ : List Addr}
theorem flat_v {d : D} {v : V} (h : Dt K Hf ρ d v) (f : flatD d = true) : flatV v = true := by
  cases d <;> try cases f
  · have h : v = .non := h; subst h; rfl
  · rename_i b; have h : v = .bl b := h; subst h; rfl
  · rename_i b; have h : v = .int b := h; subst h; rfl
  · rename_i b; have h : v = .str b := h; subst h; rfl
theorem eqF_v {d e : D} {v u : V} (h : Dt K Hf ρ d v) (g : Dt K Hf ρ e u) (fd : flatD d = true) (fe : flatD e = true) : eqV v u = eqF d e := by
  cases d <;> try cases fd
  · have h : v = .non := h; subst h
    cases e <;> try cases fe
    · have g : u = .non := g; subst g; rfl
    · rename_i b; have g : u = .bl b := g; subst g; rfl
    · rename_i b; have g : u = .int b := g; subst g; rfl
    · rename_i b; have g : u = .str b := g; subst g; rfl
  · rename_i c; have h : v = .bl c := h; subst h
    cases e <;> try cases fe
    · have g : u = .non := g; subst g; rfl
    · rename_i b; have g : u = .bl b := g; subst g; rfl
    · rename_i b; have g : u = .int b := g; subst g; rfl
    · rename_i b; have g : u = .str b := g; subst g; rfl
  · rename_i c; have h : v = .int c := h; subst h
    cases e <;> try cases fe
    · have g : u = .non := g; subst g; rfl
    · rename_i b; have g : u = .bl b := g; subst g; rfl
    · rename_i b; have g : u = .int b := g; subst g; rfl
    · rename_i b; have g : u = .str b := g; subst g; rfl
  · rename_i c; have h : v = .str c := h; subst h
    cases e <;> try cases fe
    · have g : u = .non := g; subst g; rfl
    · rename_i b; have g : u = .bl b := g; subst g; rfl
    · rename_i b; have g : u = .int b := g; subst g; rfl
    · rename_i b; have g : u = .str b := g; subst g; rfl
theorem inF_v {d : D} {v : V} (h : Dt K Hf ρ d v) (f : flatD d = true) : ∀ {l : List D} {vs : List V}, Dts K Hf ρ l vs → l.all flatD = true → inV v vs = inF d l ∧ vs.all flatV = true
  | [], vs, w, _ => by simp only [Dts] at w; subst w; exact ⟨rfl, rfl⟩
  | e :: l, vs, w, fl => by
    simp only [Dts] at w
    obtain ⟨u, r, rfl, w1, w2⟩ := w
    rw [List.all_cons, Bool.and_eq_true] at fl
    obtain ⟨i1, i2⟩ := inF_v h f w2 fl.2
    unfold inV inF at *
    rw [List.any_cons, List.any_cons, eqF_v w1 h fl.1 f, i1, List.all_cons, flat_v w1 fl.1, i2]
    exact ⟨rfl, rfl⟩
theorem Dw.flat {d : D} {v : V} (h : Dw K H Hf ρ d v) (f : flatD d = true) : Dt K Hf ρ d v := by
  cases d <;> first | exact h | cases f
end
def gInB : D → D → Option Bool
  | x, .lst l => if (flatD x && l.all flatD) = true then some (inF x l) else none
  | x, .tup l => if (flatD x && l.all flatD) = true then some (inF x l) else none
  | _, _ => none
def gIn (x y : D) : Option D := (gInB x y).map D.bl
def gNin (x y : D) : Option D := (gInB x y).map fun r => D.bl (!r)
section
variable {X : Cx}
theorem gInB_inv {H Hf : Hp} {ρ : List Addr} {S : Store} {a b : D} {x y : V} {r : Bool} (hr : HR X.K H Hf ρ S) (wa : Dw X.K H Hf ρ a x) (wb : Dw X.K H Hf ρ b y) (h : gInB a b = some r) :
    ∃ p xs, y = .ref p ∧ (SqL X.K H p xs ∨ SqT X.K H p xs) ∧ flatV x = true ∧ xs.all flatV = true ∧ inV x xs = r := by
  unfold gInB at h
  split at h
  · rename_i l
    split at h
    · rename_i hc
      rw [Bool.and_eq_true] at hc
      cases h
      obtain ⟨p, vs, rfl, _, h1, h2⟩ := wb
      have wa' := wa.flat hc.1
      obtain ⟨i1, i2⟩ := inF_v wa' hc.1 h2 hc.2
      exact ⟨p, vs, rfl, .inl (SqL.of h1), flat_v wa' hc.1, i2, i1⟩
    · cases h
  · rename_i l
    split at h
    · rename_i hc
      rw [Bool.and_eq_true] at hc
      cases h
      obtain ⟨p, vs, rfl, h1, h2⟩ := (show Dt X.K Hf ρ (.tup l) y from wb)
      have wa' := wa.flat hc.1
      obtain ⟨i1, i2⟩ := inF_v wa' hc.1 h2 hc.2
      exact ⟨p, vs, rfl, .inr (hr.sub.sqT h1), flat_v wa' hc.1, i2, i1⟩
    · cases h
  · cases h
theorem opq_in : OpQ X (compareOp .In) gIn := by
  refine ⟨_, op_in_seq, fun a b x y H Hf ρ S Q d hr wa wb e q => ?_⟩
  simp only [gIn, Option.map_eq_some_iff] at e
  obtain ⟨r, e, rfl⟩ := e
  obtain ⟨p, xs, h1, h2, h3, h4, h5⟩ := gInB_inv hr wa wb e
  refine ⟨p, xs, h1, h2, h3, h4, ?_⟩
  rw [h5]
  exact q _ _ _ _ hr (Tr.refl _ _ _) rfl
theorem opq_nin : OpQ X (compareOp .NotIn) gNin := by
  refine ⟨_, op_notIn_seq, fun a b x y H Hf ρ S Q d hr wa wb e q => ?_⟩
  simp only [gNin, Option.map_eq_some_iff] at e
  obtain ⟨r, e, rfl⟩ := e
  obtain ⟨p, xs, h1, h2, h3, h4, h5⟩ := gInB_inv hr wa wb e
  refine ⟨p, xs, h1, h2, h3, h4, ?_⟩
  rw [h5]
  exact q _ _ _ _ hr (Tr.refl _ _ _) rfl
end
end DL

end

section
set_option autoImplicit false
set_option autoImplicit false
namespace DL
open PySem PySem.Spec PyProof.Rows L2

/-- more turns than any loop takes -/
def fuel : Nat := 13407807929942597099574024998205846127479365820592393377723561443721764030073546976801874298166903427690031858186486050853753882811946569946433649006084096
def fCall0 (m : MF) : FE := fun _ _ S => m [] S
section
variable {X : Cx} {B : Gr} {W : WX} {pos p1 : Pos} {x : Str} {k : Nat} {m : MF}
theorem q_call0 (c : Callee X x k 0 m) (hr : Room k X.A) (tk : Takes X W) : QE X B W (.Call (.Name x p1) [] [] pos) (fCall0 m) := by
  obtain ⟨f, hm, ⟨fd, ps, hps, F, hk, hb⟩⟩ := c.ex
  refine ⟨fun σ H Q => spD X.K 0 m [] H Q (WE W σ), ⟨fun pins s σ H Q I h => ?_⟩, fun n E S σ H Hf ρ Q r p => ⟨[], S, Hf, ρ, rfl, r.hr, rfl, ?_⟩⟩
  · refine wpAny_Call_Name_kw (ld_glob I c.gl hm ?_ c.db)
    exact PySem.W.callWith_K0 I.kIn hk (run_fnS (E := WE W) (vs := []) (us := []) F hr hb (passAt tk σ) I .nil h)
  · have p : PostE X.K W σ H Hf ρ Q (m [] S) := p
    cases e2 : m [] S with
    | stk => rw [e2] at p; exact p
    | exc y S2 => rw [e2] at p; exact fun c od H' Hf' ρ' a b d => p c od H' Hf' ρ' a b d
    | ok d S2 => rw [e2] at p; exact fun v H' Hf' ρ' a b d => p v H' Hf' ρ' a b d
end
section
variable {fa : List He.Fa} {fn : List He.DefD} {K : PySem.W.Frag} {mg : Str → Option Value} {x : Str}
/-- of what is never asked nothing is to be shown -/
theorem Hd.callee0 {P : Program} {w : World} {base : Heap} {params : Arguments} {body : List Stmt} {scope : Scope} {N ps : List Str} {k np : Nat} {nm qual : Str} (T : Hd fa fn K mg) (i j : Nat) (h : fa[i]? = some (.glo x))
    (hd : fn[j]? = some ⟨(x, none), nm, qual, params, body, scope, [], []⟩) (S : FnScope N ps scope) (hp : ps.length = np)
    (hb : ∀ (kV doc pm : Value) (an : Option Addr) (cdv ct : Value) (us : List Value), us.length = ps.length → bindArgs (PySem.W.fnOf nm qual params body scope .none kV doc pm an cdv ct) ⟨us, []⟩ = pure (ps.zip us)) :
    CalleeK P w K mg base x k np (fun _ _ => .stk) := by
  obtain ⟨fd, F⟩ := T.c.def_ j hd
  refine ⟨He.ga K x, T.glo i h, fd, ps, hp, ⟨fun vs H Q E z => ?_, fun A outer s H args us vs Q E _ _ _ _ z => ?_⟩, F.kp, FunD.bindsN F hb⟩
  · obtain ⟨_, _, _, _, _, _, _, z⟩ := z; exact z.elim
  · obtain ⟨_, _, _, _, _, _, _, z⟩ := z; exact z.elim
end
/-- a promise without errors -/
theorem FnOk.noX {P : Program} {w : World} {K : PySem.W.Frag} {mg : Str → Option Value} {base : Heap} {k : Nat} {f : Addr} {fd : FuncData} {ps : List Str} {sp : Sp} (F : FnOk P w K mg base (L2.CX P w) k f fd ps sp) :
    FnOk P w K mg base CX0 k f fd ps (fun vs H Q _ => sp vs H Q fun _ _ _ => False) := by
  refine ⟨fun vs H Q E z => F.len _ _ _ _ z, fun A outer s H args us vs Q E hr e b r z => ?_⟩
  refine codeAny_mono (F.run A outer s H args us vs Q (fun _ _ _ => False) hr e b r z) fun r s' hq => ?_
  cases r with
  | error e =>
    obtain ⟨_, _, _, _, _, _, _, _, _, _, _, _, z⟩ := (show L2.CX P w outer H s (fun _ _ _ => False) e s' from hq)
    exact z.elim
  | ok fl => cases fl <;> exact hq
theorem law_end {P : Program} {w : World} {K : PySem.W.Frag} {mg : Str → Option Value} {h : Heap} {fa : Addr} {fas : List He.Fa} {fns : List He.DefD} {params : Arguments} {body : List Stmt} {scope : Scope} {nm qual : Str} {k : Nat} {m : MF} {N : List Str} {fb : FS}
    (T : Hd fas fns K mg) (KX : K.In h) (hmg : mg ("law" : Str) = some (.ref fa)) (i j : Nat) (hg : fas[i]? = some (.glo "law")) (hd : fns[j]? = some ⟨(("law" : Str), none), nm, qual, params, body, scope, [], []⟩) (S : FnScope N ["script"] scope)
    (hb : ∀ (kV doc pm : Value) (an : Option Addr) (cdv ct : Value) (us : List Value), us.length = (["script"] : List Str).length → bindArgs (PySem.W.fnOf nm qual params body scope .none kV doc pm an cdv ct) ⟨us, []⟩ = pure ((["script"] : List Str).zip us))
    (der : ∀ (base : Heap) (X : Cx) (B : Gr) (W : WX), Bd X W P w K mg base k N scope → QSs X B W body fb) (impl : ∀ ds S, ds.length = 1 → m ds S ≠ .stk → ∃ n, bodyR (fb n (startE N ds) S) = m ds S)
    (tr : ∀ ns : List Int, ns.length ≤ 63 → ∃ S, m [.scr ns] [] = .ok (.bl true) S) :
    ∃ (K : PySem.W.Frag) (fd : FuncData) (sp : Sp), K.In h ∧ (∀ (s : Shared) (u : Value), BindsTo s fd ⟨[u], []⟩ [("script", u)]) ∧
        (∀ (H : Hp) (a : Addr) (ns : List Int), ns.length ≤ 63 → Only H → SqL K H a (ns.map V.int) → sp [.ref a] H (fun v _ => v = .bl true) fun _ _ _ => False) ∧
        ∀ base : Heap, K.In base → base.Ns mainGlobals mg → FnOk P w K mg base CX0 (k + 1) fa fd ["script"] sp := by
  obtain ⟨fd, F⟩ := T.c.def_ j hd
  have e := hmg.symm.trans (T.glo i hg)
  cases e
  refine ⟨K, fd, _, KX, fun s v => FunD.bindsA (ps := ["script"]) F hb s [v] rfl, ?_, fun base _ _ => FnOk.noX (fnOk_of (f := He.ga K "law") F S rfl (der base) impl)⟩
  intro H a ns hl _ hS
  obtain ⟨S', e⟩ := tr ns hl
  refine ⟨[.scr ns], [], H, [], rfl, ⟨Ext.refl _, rfl, fun i j a h => by simp at h, fun n a h => by simp at h, fun n a c h => by simp at h⟩, ⟨_, [], rfl, ⟨a, rfl, hS⟩, rfl⟩, ?_⟩
  rw [e]
  intro v H' Hf' ρ' _ _ d
  exact d
theorem cx_no (H : Hp) (s : Shared) (e : Value) (s' : Shared) : CX0 [] H s (fun _ _ _ => False) e s' → False := fun z => z
end DL

end

section
set_option autoImplicit false
set_option autoImplicit false
namespace DL
open PySem PySem.Spec PyProof.Rows L2

/-! ### several values at once, some of them new lists of one's own -/
def Ams (K : PySem.W.Frag) (H0 H Hf : Hp) (ρ : List Addr) : List Sl → List V → Prop
  | [], vs => vs = []
  | .fz d :: l, vs => ∃ v r, vs = v :: r ∧ Dt K Hf ρ d v ∧ Ams K H0 H Hf ρ l r
  | .own d :: l, vs => ∃ p r, vs = .ref p :: r ∧ H0 p = none ∧ Hf p = none ∧ p ∉ ρ ∧ OwnAt K H Hf ρ p d ∧ (∀ (i : Nat) e, l[i]? = some (.own e) → r[i]? ≠ some (.ref p)) ∧ Ams K H0 H Hf ρ l r
theorem Ams.own_none {K : PySem.W.Frag} {H0 H Hf : Hp} {ρ : List Addr} : ∀ {l : List Sl} {r : List V} {i : Nat} {e : D} {p : Addr}, Ams K H0 H Hf ρ l r → l[i]? = some (.own e) → r[i]? = some (.ref p) → H0 p = none
  | [], r, i, e, p, a, h1, h2 => by simp at h1
  | .fz d :: l, r, i, e, p, a, h1, h2 => by
    obtain ⟨v, r', rfl, _, a⟩ := a
    cases i with
    | zero => simp at h1
    | succ i => exact a.own_none (by simpa using h1) (by simpa using h2)
  | .own d :: l, r, i, e, p, a, h1, h2 => by
    obtain ⟨q, r', rfl, k1, _, _, _, _, a⟩ := a
    cases i with
    | zero => simp at h2; subst h2; exact k1
    | succ i => exact a.own_none (by simpa using h1) (by simpa using h2)
theorem Ams.back {K : PySem.W.Frag} {H0 H1 H Hf : Hp} {ρ : List Addr} (hh : ∀ p, H1 p = none → H0 p = none) : ∀ {l : List Sl} {r : List V}, Ams K H1 H Hf ρ l r → Ams K H0 H Hf ρ l r
  | [], r, a => a
  | .fz d :: l, r, a => by
    obtain ⟨v, r', rfl, k, a⟩ := a
    exact ⟨v, r', rfl, k, a.back hh⟩
  | .own d :: l, r, a => by
    obtain ⟨q, r', rfl, k1, k2, k3, k4, k5, a⟩ := a
    exact ⟨q, r', rfl, hh _ k1, k2, k3, k4, k5, a.back hh⟩
abbrev FM := Nat → Env → Store → Res (List Sl)
def PostAm (K : PySem.W.Frag) (W : WX) (σ : L2.St) (H Hf : Hp) (ρ : List Addr) (Q : List V → Hp → Prop) : Res (List Sl) → Prop
  | .ok d S' => ∀ v H' Hf' ρ', HR K H' Hf' ρ' S' → Tr H Hf ρ H' Hf' ρ' → Ams K H H' Hf' ρ' d v → Q v H'
  | .exc x S' => PostX K W σ H Hf ρ x S'
  | .stk => False
def QM (X : Cx) (B : Gr) (W : WX) (es : List Expr) (f : FM) : Prop := ∃ t, PA X es t ∧ ∀ n E S σ H Hf ρ Q, Rel X.K B E S σ H Hf ρ → PostAm X.K W σ H Hf ρ Q (f n E S) → t σ H Q
def fmNil : FM := fun _ _ S => .ok [] S
def fmFz (f : FE) (g : FM) : FM := fun n E S => (f n E S).bind fun d S1 => (g n E S1).bind fun ds S2 => .ok (.fz d :: ds) S2
def fmOwn (f : FE) (g : FM) : FM := fun n E S => (f n E S).bind fun d S1 => (g n E S1).bind fun ds S2 => .ok (.own d :: ds) S2
section
variable {X : Cx} {B : Gr} {W : WX} {pos : Pos} {e : Expr} {es : List Expr} {f : FE} {g : FM}
theorem tr_none {H Hf H' Hf' : Hp} {ρ ρ' : List Addr} (t : Tr H Hf ρ H' Hf' ρ') (p : Addr) (h : H' p = none) : H p = none := by
  cases z : H p with
  | none => rfl
  | some u => exact absurd h (t.alive p (by rw [z]; simp))
theorem m_nil : QM X B W [] fmNil := ⟨_, pa_nil, fun n E S σ H Hf ρ Q r p => p _ _ _ _ r.hr (Tr.refl _ _ _) rfl⟩
theorem m_fz (ha : QE X B W e f) (hr : QM X B W es g) (hs : starEach (e :: es) X.env = (false, eval e X.env) :: starEach es X.env) : QM X B W (e :: es) (fmFz f g) := by
  obtain ⟨t, h1, h2⟩ := ha
  obtain ⟨u, k1, k2⟩ := hr
  refine ⟨_, pa_cons h1 k1 hs, fun n E S σ H Hf ρ Q r p => h2 n E S σ H Hf ρ _ r ?_⟩
  unfold fmFz at p
  cases e1 : f n E S with
  | stk => rw [e1] at p; exact p
  | exc x S1 => rw [e1] at p; exact p
  | ok d S1 =>
    rw [e1] at p
    intro v H1 Hf1 ρ1 hr1 t1 w1
    refine k2 n E S1 σ H1 Hf1 ρ1 _ (r.step hr1 t1) ?_
    have p : PostAm X.K W σ H Hf ρ Q ((g n E S1).bind fun ds S2 => .ok (.fz d :: ds) S2) := p
    cases e2 : g n E S1 with
    | stk => rw [e2] at p; exact p
    | exc x S2 => rw [e2] at p; exact PostX.tr t1 p
    | ok ds S2 =>
      rw [e2] at p
      intro vs H2 Hf2 ρ2 hr2 t2 w2
      exact p _ _ _ _ hr2 (t1.trans t2) ⟨v, vs, rfl, w1.mono t2.hf t2.pre, w2.back (tr_none t1)⟩
theorem m_own (ha : QF X B W e f) (hr : QM X B W es g) (hs : starEach (e :: es) X.env = (false, eval e X.env) :: starEach es X.env) : QM X B W (e :: es) (fmOwn f g) := by
  obtain ⟨t, h1, h2⟩ := ha
  obtain ⟨u, k1, k2⟩ := hr
  refine ⟨_, pa_cons h1 k1 hs, fun n E S σ H Hf ρ Q r p => h2 n E S σ H Hf ρ _ r ?_⟩
  unfold fmOwn at p
  cases e1 : f n E S with
  | stk => rw [e1] at p; exact p
  | exc x S1 => rw [e1] at p; exact p
  | ok d S1 =>
    rw [e1] at p
    intro v H1 Hf1 ρ1 hr1 t1 q0 q1 q2 q3
    refine k2 n E S1 σ H1 Hf1 ρ1 _ (r.step hr1 t1) ?_
    have p : PostAm X.K W σ H Hf ρ Q ((g n E S1).bind fun ds S2 => .ok (.own d :: ds) S2) := p
    cases e2 : g n E S1 with
    | stk => rw [e2] at p; exact p
    | exc x S2 => rw [e2] at p; exact PostX.tr t1 p
    | ok ds S2 =>
      rw [e2] at p
      intro vs H2 Hf2 ρ2 hr2 t2 w2
      obtain ⟨o, ho⟩ := q3.there
      refine p _ _ _ _ hr2 (t1.trans t2) ⟨v, vs, rfl, q0, ?_, fun z => ?_, q3.mono q2 t2, fun i e' hi hz => ?_, w2.back (tr_none t1)⟩
      · cases z : Hf2 v with
        | none => rfl
        | some u =>
          rcases t2.fresh v (by rw [z]; simp) with z | z
          · exact absurd q1 z
          · rw [ho] at z; cases z
      · rcases t2.newh v z with z | z
        · exact q2 z
        · rw [ho] at z; cases z
      · have := w2.own_none hi hz
        rw [ho] at this; cases this
end
/-- one slot is set -/
theorem Rel.setSl {K : PySem.W.Frag} {B : Gr} {E : Env} {S : Store} {σ : L2.St} {H Hf : Hp} {ρ : List Addr} (r : Rel K B E S σ H Hf ρ) (i : Nat) {s : Sl} {v : V}
    (h : SlOk K B.H0 H Hf ρ (some (some v)) s) (hd : ∀ p d, s = .own d → v = .ref p → ∀ (j : Nat) e, E[j]? = some (some (.own e)) → σ[j]? ≠ some (some (.ref p))) :
    Rel K B (E.set i (some s)) S (σ.set i (some v)) H Hf ρ := by
  cases s with
  | fz d =>
    obtain ⟨u, h1, h2⟩ := h
    cases h1
    exact r.set i h2
  | own d =>
    obtain ⟨a, h1, h2, h3, h4, h5⟩ := h
    cases h1
    exact r.setOwn i h2 h3 h4 h5 (hd a d rfl rfl)
def fPm2 (i j : Nat) (f : FM) : FS := fun n E S => match f n E S with
  | .ok [a, b] S1 => .nx ((E.set i (some a)).set j (some b)) S1
  | .ok _ _ => .stk
  | .exc x S1 => .ex x E S1
  | .stk => .stk
def fPm3 (i j k : Nat) (f : FM) : FS := fun n E S => match f n E S with
  | .ok [a, b, c] S1 => .nx (((E.set i (some a)).set j (some b)).set k (some c)) S1
  | .ok _ _ => .stk
  | .exc x S1 => .ex x E S1
  | .stk => .stk
/-- the head of some values, and what one must know of it to set it -/
theorem Ams.head {K : PySem.W.Frag} {B : Gr} {E : Env} {S : Store} {σ : L2.St} {H Hf H' Hf' : Hp} {ρ ρ' : List Addr} {s : Sl} {l : List Sl} {vs : List V} (r : Rel K B E S σ H Hf ρ) (a : Ams K H H' Hf' ρ' (s :: l) vs) :
    ∃ v r', vs = v :: r' ∧ SlOk K B.H0 H' Hf' ρ' (some (some v)) s ∧ (∀ p d, s = .own d → v = .ref p → H p = none ∧ ∀ (i : Nat) e, l[i]? = some (.own e) → r'[i]? ≠ some (.ref p)) ∧ Ams K H H' Hf' ρ' l r' := by
  cases s with
  | fz d =>
    obtain ⟨v, r', rfl, k, a⟩ := a
    exact ⟨v, r', rfl, ⟨v, rfl, k⟩, (fun p d e => by cases e), a⟩
  | own d =>
    obtain ⟨q, r', rfl, k1, k2, k3, k4, k5, a⟩ := a
    refine ⟨.ref q, r', rfl, ⟨q, rfl, tr_none r.tr q k1, k2, k3, k4⟩, fun p d e e2 => ?_, a⟩
    cases e2
    exact ⟨k1, k5⟩
/-- no own thing of old lies where nothing lay -/
theorem Rel.oldOwn {K : PySem.W.Frag} {B : Gr} {E : Env} {S : Store} {σ : L2.St} {H Hf : Hp} {ρ : List Addr} (r : Rel K B E S σ H Hf ρ) {p : Addr} (h : H p = none) (j : Nat) (e : D) (he : E[j]? = some (some (.own e))) : σ[j]? ≠ some (some (.ref p)) := fun hj => by
  obtain ⟨a2, k1, _, _, _, k5⟩ := r.sl j _ he
  rw [k1] at hj
  cases hj
  obtain ⟨u, hu⟩ := k5.there
  rw [h] at hu; cases hu
section
variable {X : Cx} {B : Gr} {W : WX} {pos : Pos} {fa : FM}
theorem s_pm2 {i j : Nat} {x y : Str} {a b : Expr} {px py pt pt2 : Pos} {kt k2 : Nat} (cc : Cc X W) (lx : Ll X i x) (ly : Ll X j y) (hij : i ≠ j) (ha : QM X B W [a, b] fa)
    (hw : swappedStores [.Tuple [.Name x px, .Name y py] kt pt] (.Tuple [a, b] k2 pt2) X.env = pure (some [x, y]))
    (hs : swapsWithSole [.Tuple [.Name x px, .Name y py] kt pt] (.Tuple [a, b] k2 pt2) pos.line X.env = pure false) :
    QS X B W (.Assign [.Tuple [.Name x px, .Name y py] kt pt] (.Tuple [a, b] k2 pt2) pos) (fPm2 i j fa) := by
  obtain ⟨t, b1, b2⟩ := ha
  refine ⟨_, ps_par cc.calm cc.nd lx.ix ly.ix hij lx.loc ly.loc b1 hw hs, fun n E S σ H Hf ρ Q r p => b2 n E S σ H Hf ρ _ r ?_⟩
  unfold fPm2 at p
  cases e1 : fa n E S with
  | stk => rw [e1] at p; exact p
  | exc y S1 => rw [e1] at p; exact fun c od H' Hf' ρ' a b d => p c od σ H' Hf' ρ' (r.step a b) b.hf b.pre d
  | ok ds S1 =>
    rw [e1] at p
    intro vs H' Hf' ρ' h1 h2 w
    match ds, p, w with
    | [d1, d2], p, w =>
      obtain ⟨v1, r1, rfl, w1, u1, a2⟩ := w.head r
      obtain ⟨v2, r2, rfl, w2, u2, a3⟩ := a2.head r
      cases a3
      refine ⟨v1, v2, rfl, p _ _ _ _ (((r.step h1 h2).setSl i w1 fun p d e e2 j' e' he => ?_).setSl j w2 fun p d e e2 j' e' he => ?_) h2.hf h2.pre⟩
      · exact r.oldOwn (u1 p d e e2).1 j' e' he
      · rcases get_set_own he with ⟨rfl, x1, hl⟩ | ⟨hj, he⟩
        · cases x1
          rw [List.getElem?_set_self (by rw [← r.len]; exact hl)]
          intro z
          cases z
          exact (u1 _ e' rfl rfl).2 0 d (by subst e; rfl) (by subst e2; rfl)
        · rw [List.getElem?_set_ne hj]
          exact r.oldOwn (u2 p d e e2).1 j' e' he
theorem s_pm3 {i j k : Nat} {x y z : Str} {a b c : Expr} {px py pz pt pt2 : Pos} {kt k2 : Nat} (cc : Cc X W) (lx : Ll X i x) (ly : Ll X j y) (lz : Ll X k z) (hij : i ≠ j) (hik : i ≠ k) (hjk : j ≠ k) (ha : QM X B W [a, b, c] fa)
    (hw : swappedStores [.Tuple [.Name x px, .Name y py, .Name z pz] kt pt] (.Tuple [a, b, c] k2 pt2) X.env = pure (some [x, y, z]))
    (hs : swapsWithSole [.Tuple [.Name x px, .Name y py, .Name z pz] kt pt] (.Tuple [a, b, c] k2 pt2) pos.line X.env = pure false) :
    QS X B W (.Assign [.Tuple [.Name x px, .Name y py, .Name z pz] kt pt] (.Tuple [a, b, c] k2 pt2) pos) (fPm3 i j k fa) := by
  obtain ⟨t, b1, b2⟩ := ha
  refine ⟨_, ps_par3 cc.calm cc.nd lx.ix ly.ix lz.ix hij hik hjk lx.loc ly.loc lz.loc b1 hw hs, fun n E S σ H Hf ρ Q r p => b2 n E S σ H Hf ρ _ r ?_⟩
  unfold fPm3 at p
  cases e1 : fa n E S with
  | stk => rw [e1] at p; exact p
  | exc y S1 => rw [e1] at p; exact fun c od H' Hf' ρ' a b d => p c od σ H' Hf' ρ' (r.step a b) b.hf b.pre d
  | ok ds S1 =>
    rw [e1] at p
    intro vs H' Hf' ρ' h1 h2 w
    match ds, p, w with
    | [d1, d2, d3], p, w =>
      obtain ⟨v1, r1, rfl, w1, u1, a2⟩ := w.head r
      obtain ⟨v2, r2, rfl, w2, u2, a3⟩ := a2.head r
      obtain ⟨v3, r3, rfl, w3, u3, a4⟩ := a3.head r
      cases a4
      refine ⟨v1, v2, v3, rfl, p _ _ _ _ ((((r.step h1 h2).setSl i w1 fun p d e e2 j' e' he => ?_).setSl j w2 fun p d e e2 j' e' he => ?_).setSl k w3 fun p d e e2 j' e' he => ?_) h2.hf h2.pre⟩
      · exact r.oldOwn (u1 p d e e2).1 j' e' he
      · rcases get_set_own he with ⟨rfl, x1, hl⟩ | ⟨hj, he⟩
        · cases x1
          rw [List.getElem?_set_self (by rw [← r.len]; exact hl)]
          intro z
          cases z
          exact (u1 _ e' rfl rfl).2 0 d (by subst e; rfl) (by subst e2; rfl)
        · rw [List.getElem?_set_ne hj]
          exact r.oldOwn (u2 p d e e2).1 j' e' he
      · rcases get_set_own he with ⟨rfl, x1, hl⟩ | ⟨hj, he⟩
        · cases x1
          rw [List.getElem?_set_self (by simpa [← r.len] using hl)]
          intro z
          cases z
          exact (u2 _ e' rfl rfl).2 0 d (by subst e; rfl) (by subst e2; rfl)
        · rw [List.getElem?_set_ne hj]
          rcases get_set_own he with ⟨rfl, x1, hl⟩ | ⟨hj, he⟩
          · cases x1
            rw [List.getElem?_set_self (by rw [← r.len]; exact hl)]
            intro z
            cases z
            exact (u1 _ e' rfl rfl).2 1 d (by subst e; rfl) (by subst e2; rfl)
          · rw [List.getElem?_set_ne hj]
            exact r.oldOwn (u3 p d e e2).1 j' e' he
end
theorem Ams.step {K : PySem.W.Frag} {H0 H Hf H' Hf' : Hp} {ρ ρ' : List Addr} (t : Tr H Hf ρ H' Hf' ρ') : ∀ {l : List Sl} {r : List V}, Ams K H0 H Hf ρ l r → Ams K H0 H' Hf' ρ' l r
  | [], r, a => a
  | .fz d :: l, r, a => by
    obtain ⟨v, r', rfl, k, a⟩ := a
    exact ⟨v, r', rfl, k.mono t.hf t.pre, a.step t⟩
  | .own d :: l, r, a => by
    obtain ⟨q, r', rfl, k1, k2, k3, k4, k5, a⟩ := a
    obtain ⟨o, ho⟩ := k4.there
    refine ⟨q, r', rfl, k1, ?_, fun z => ?_, k4.mono k3 t, k5, a.step t⟩
    · cases z : Hf' q with
      | none => rfl
      | some u =>
        rcases t.fresh q (by rw [z]; simp) with z | z
        · exact absurd k2 z
        · rw [ho] at z; cases z
    · rcases t.newh q z with z | z
      · exact k3 z
      · rw [ho] at z; cases z
section
variable {X : Cx} {B : Gr} {W : WX} {pos : Pos} {fa : FM}
/-- a tuple is laid first: names that comprehensions read -/
theorem s_pmt2 {i j : Nat} {x y : Str} {a b : Expr} {px py pt pt2 : Pos} {kt k2 : Nat} (cc : Cc X W) (lx : Lr X i x) (ly : Lr X j y) (ha : QM X B W [a, b] fa)
    (hs : swapsWithSole [.Tuple [.Name x px, .Name y py] kt pt] (.Tuple [a, b] k2 pt2) pos.line X.env = pure false) (hw : swappedStores [.Tuple [.Name x px, .Name y py] kt pt] (.Tuple [a, b] k2 pt2) X.env = pure none)
    (h1 : (assignEach [.Tuple [.Name x px, .Name y py] kt pt] X.env).map (·.2) = [assign (.Tuple [.Name x px, .Name y py] kt pt) X.env])
    (ht1 : (assignEach [.Name x px, .Name y py] X.env).map (·.2) = assign (.Name x px) X.env :: (assignEach [.Name y py] X.env).map (·.2)) (ht2 : (assignEach [.Name y py] X.env).map (·.2) = assign (.Name y py) X.env :: (assignEach [] X.env).map (·.2))
    (hn : (assignEach [.Name x px, .Name y py] X.env).length = 2) (hst : (assignEach [.Name x px, .Name y py] X.env).findIdx? (·.1) = none) :
    QS X B W (.Assign [.Tuple [.Name x px, .Name y py] kt pt] (.Tuple [a, b] k2 pt2) pos) (fPm2 i j fa) := by
  obtain ⟨t, b1, b2⟩ := ha
  refine ⟨_, ps_asg (pe_tup b1) (pg_tup cc.calm (pgs_cons (pg_name lx.nd lx.ix lx.loc lx.fn) (pgs_cons (pg_name ly.nd ly.ix ly.loc ly.fn) pgs_nil ht2) ht1) hn hst) hs hw h1, fun n E S σ H Hf ρ Q r p => b2 n E S σ H Hf ρ _ r ?_⟩
  unfold fPm2 at p
  cases e1 : fa n E S with
  | stk => rw [e1] at p; exact p
  | exc y S1 => rw [e1] at p; exact fun c od H' Hf' ρ' a b d => p c od σ H' Hf' ρ' (r.step a b) b.hf b.pre d
  | ok ds S1 =>
    rw [e1] at p
    intro vs H1 Hf1 ρ1 g1 g2 w
    match ds, p, w with
    | [d1, d2], p, w =>
      obtain ⟨v1, r1, rfl, -, -, a2⟩ := w.head r
      obtain ⟨v2, r2, rfl, -, -, a3⟩ := a2.head r
      cases a3
      refine ⟨by show 2 ≤ sizeLine; decide, fun q hq => ⟨q, _, rfl, SqT.of upd_same, rfl, v1, _, rfl, v2, _, rfl, rfl, ?_⟩⟩
      have t3 : Tr H1 Hf1 ρ1 (upd H1 q (.tup [v1, v2])) Hf1 ρ1 := Tr.own hq
      have g3 : HR X.K (upd H1 q (.tup [v1, v2])) Hf1 ρ1 S1 := g1.own (g1.hnone hq) (g1.notin hq)
      have w := w.step t3
      have h2 := g2.trans t3
      obtain ⟨v1', r1', e3, w1, u1, a2⟩ := w.head r
      cases e3
      obtain ⟨v2', r2', e4, w2, u2, a3⟩ := a2.head r
      cases e4
      refine p _ _ _ _ (((r.step g3 h2).setSl i w1 fun p d e e2 j' e' he => ?_).setSl j w2 fun p d e e2 j' e' he => ?_) h2.hf h2.pre
      · exact r.oldOwn (u1 p d e e2).1 j' e' he
      · rcases get_set_own he with ⟨rfl, x1, hl⟩ | ⟨hj, he⟩
        · cases x1
          rw [List.getElem?_set_self (by rw [← r.len]; exact hl)]
          intro z
          cases z
          exact (u1 _ e' rfl rfl).2 0 d (by subst e; rfl) (by subst e2; rfl)
        · rw [List.getElem?_set_ne hj]
          exact r.oldOwn (u2 p d e e2).1 j' e' he
end
theorem sw2c {env : PySem.Env} {x y : Str} {px py pt pt2 : Pos} {kt k2 : Nat} {a b : Expr} (hk : env.scope.kind = .function) (hx : env.scope.names.lookup x = some .cell ∨ env.scope.names.lookup y = some .cell)
    (h1 : ([a, b].any fun | .Starred .. => true | _ => false) = false) :
    swappedStores [.Tuple [.Name x px, .Name y py] kt pt] (.Tuple [a, b] k2 pt2) env = pure none := by
  have hb : env.blockKind = .function := by unfold PySem.Env.blockKind; rw [hk]; rfl
  unfold swappedStores
  dsimp only
  generalize hA : List.all [a, b] (foldedForSure 8) = A at *
  generalize hB : List.all [a, b] (constantsAlone 8) = C at *
  rw [if_neg (by rw [hb]; exact Bool.false_ne_true)]
  refine Eq.trans (if_neg (fun z => Bool.false_ne_true (h1.symm.trans z))) ?_
  generalize hF : List.filterMap _ _ = F
  have e : F.length ≠ 2 := by
    rw [← hF]
    rw [List.filterMap_cons, List.filterMap_cons, List.filterMap_nil]
    dsimp only
    have c1 : (some NameKind.cell == some NameKind.local) = false := by decide
    rcases hx with hx | hx
    · have kx : env.kindOf x = some .cell := hx
      rw [kx, c1]
      simp only [Bool.false_and, Bool.false_eq_true, if_false]
      split <;> simp
    · have kx : env.kindOf y = some .cell := hx
      rw [kx, c1]
      simp only [Bool.false_and, Bool.false_eq_true, if_false]
      split <;> simp
  rw [if_pos (by simp [e])]
/-- a display of constants alone is folded: no names change places -/
theorem swk {env : PySem.Env} {ts vs : List Expr} {pt pt2 : Pos} {kt k2 : Nat} (h2 : vs.all (foldedForSure 8) = true) :
    swappedStores [.Tuple ts kt pt] (.Tuple vs k2 pt2) env = pure none := by
  unfold swappedStores
  dsimp only
  generalize hA : List.all vs (foldedForSure 8) = A at *
  subst h2
  split
  · rfl
  · refine Eq.trans ?_ rfl
    split
    · rfl
    · simp
/-! ### range with a step -/
def rngC (lo c : Int) (n : Nat) : List D := (List.range n).map fun i : Nat => .int (lo + (i : Int) * c)
def rng3? : List D → Option (List D)
  | [.int i, .int j, .int c] => if (decide (c ≠ 0) && decide (c.natAbs < 1073741824) && Builtin.Range.small i j c && decide (0 ≤ Builtin.Range.rangeSize i j c)) = true then some (rngC i c (Builtin.Range.rangeSize i j c).toNat) else none
  | _ => none
theorem walk_rngC {K : PySem.W.Frag} {lo c : Int} {n : Nat} {Hf : Hp} {ρ : List Addr} : WalkD K (Itc lo c n) (rngC lo c n) Hf ρ := by
  intro H1 Hf1 ρ1 S1 hr ex pr i
  unfold rngC
  refine ⟨fun d e => ?_, fun hl => (by simpa using hl : n ≤ i)⟩
  rw [List.getElem?_map] at e
  cases z : (List.range n)[i]? with
  | none => rw [z] at e; cases e
  | some j =>
    rw [z] at e
    obtain ⟨hj, ej⟩ := List.getElem?_eq_some_iff.mp z
    simp at hj ej
    cases e
    refine ⟨hj, fun x H2 y => ?_⟩
    obtain ⟨rfl, rfl⟩ := y
    exact ⟨Hf1, hr, Tr.refl _ _ _, by rw [ej]; rfl⟩
section
variable {X : Cx} {B : Gr} {W : WX} {tg : Expr} {pos p1 : Pos} {fa : FA}
theorem i_r3 {a b c : Expr} (hb : Blt X "range") (ha : QA X B W [a, b, c] fa) (hs : starEach [a, b, c] X.env = (false, eval a X.env) :: starEach [b, c] X.env) (hpl : (backTo pos (starEach [b, c] X.env)).any (·.1) = false) : QI X B W tg (.Call (.Name "range" p1) [a, b, c] [] pos) (fLift rng3? fa) := by
  obtain ⟨t, a1, a2⟩ := ha
  refine ⟨_, pi_range3 hb.gl hb.free a1 hs hpl, fun n E S σ H Hf ρ R r p => a2 n E S σ H Hf ρ _ r (lift_post p fun ds l S1 vs H' Hf' ρ' e h1 h2 w k => ?_)⟩
  unfold rng3? at e
  split at e
  · rename_i i j c
    split at e
    · rename_i hc
      cases e
      simp only [Bool.and_eq_true, decide_eq_true_eq] at hc
      obtain ⟨v1, r1, rfl, w1, w2⟩ := w
      obtain ⟨v2, r2, rfl, w2, w3⟩ := w2
      obtain ⟨v3, r3, rfl, w3, w4⟩ := w3
      cases w4
      have w1 : v1 = .int i := w1
      have w2 : v2 = .int j := w2
      have w3 : v3 = .int c := w3
      refine ⟨i, j, c, (Builtin.Range.rangeSize i j c).toNat, by rw [w1, w2, w3], ⟨hc.1.1.1, hc.1.1.2, hc.1.2, by omega⟩, k _ H' Hf' ρ' h1 h2 walk_rngC⟩
    · cases e
  · cases e
/-- a list's items with their places -/
def enumD (i : Nat) : List D → List D
  | [] => []
  | d :: l => .tup [.int i, d] :: enumD (i + 1) l
def enum? : List D → Option (List D)
  | [.lst l] => some (enumD 0 l)
  | _ => none
theorem enumD_get : ∀ {l : List D} {k i : Nat} {d : D}, (enumD k l)[i]? = some d → ∃ a, l[i]? = some a ∧ d = .tup [.int (k + i : Nat), a]
  | [], k, i, d, h => by simp [enumD] at h
  | a :: l, k, 0, d, h => by simp [enumD] at h; exact ⟨a, rfl, by rw [← h]; rfl⟩
  | a :: l, k, i + 1, d, h => by
    simp only [enumD, List.getElem?_cons_succ] at h
    obtain ⟨x, h1, h2⟩ := enumD_get h
    refine ⟨x, h1, ?_⟩
    have : k + 1 + i = k + (i + 1) := by omega
    rw [h2, this]
theorem enumD_len : ∀ (l : List D) (k : Nat), (enumD k l).length = l.length
  | [], _ => rfl
  | a :: l, k => by simp only [enumD, List.length_cons, enumD_len l]
theorem i_enum {e : Expr} {elts : List Expr} {kk : Nat} {tpos : Pos} (hb : Blt X "enumerate") (ha : QA X B W [e] fa) (hs : starEach [e] X.env = [(false, eval e X.env)]) : QI X B W (.Tuple elts kk tpos) (.Call (.Name "enumerate" p1) [e] [] pos) (fLift enum? fa) := by
  obtain ⟨t, a1, a2⟩ := ha
  refine ⟨_, pi_enum hb.gl hb.free a1 hs, fun n E S σ H Hf ρ R r p => a2 n E S σ H Hf ρ _ r (lift_post p fun ds l S1 vs H' Hf' ρ' e h1 h2 w k => ?_)⟩
  unfold enum? at e
  split at e
  · rename_i l
    cases e
    obtain ⟨v1, r1, rfl, w1, w2⟩ := w
    cases w2
    obtain ⟨a, xs, rfl, k1, k2⟩ := (show Dt X.K Hf' ρ' (.lst l) v1 from w1)
    refine ⟨a, xs, rfl, SqL.of (h1.sub _ _ k1), k _ H' Hf' ρ' h1 h2 ?_⟩
    intro H1 Hf1 ρ1 S1 hr ex pr i
    have g1 : SqL X.K H1 a xs := SqL.of (hr.sub _ _ (ex _ _ k1))
    refine ⟨fun d e => ?_, fun hl => ⟨xs, g1, ?_⟩⟩
    · obtain ⟨da, x1, rfl⟩ := enumD_get e
      obtain ⟨va, y1, y2⟩ := k2.get x1
      refine ⟨⟨xs, va, g1, y1⟩, fun x H2 y => ?_⟩
      obtain ⟨T, u1, rfl, hT, rfl, z1⟩ := y
      have z1 := z1 xs g1
      rw [y1] at z1; cases z1
      have := pair_new (a := .int (0 + i : Nat)) (x := .int (i : Nat)) hr hT (by simp [Dt]) (y2.mono ex pr)
      exact this
    · rw [enumD_len] at hl
      rw [← k2.length]
      omega
  · cases e
end
/-! ### in, among data of any depth -/
def gInD2 (a b : D) : Option Bool := match a.py, b.py with
  | some p, some (.tuple ds) => if (SeqAt.shaped p && SeqAt.shaped (.tuple ds)) = true then some (ds.any fun z => PyData.eqv z p) else none
  | _, _ => none
def gInX (a b : D) : Option D := (gInD2 a b).map D.bl
def gNinX (a b : D) : Option D := (gInD2 a b).map fun r => D.bl (!r)
theorem gInD2_inv {a b : D} {r : Bool} (h : gInD2 a b = some r) : ∃ p ds, a.py = some p ∧ b.py = some (.tuple ds) ∧ SeqAt.shaped p = true ∧ SeqAt.shaped (.tuple ds) = true ∧ r = ds.any fun z => PyData.eqv z p := by
  unfold gInD2 at h
  split at h
  · rename_i p ds e1 e2
    split at h
    · rename_i hc
      rw [Bool.and_eq_true] at hc
      cases h
      exact ⟨p, ds, e1, e2, hc.1, hc.2, rfl⟩
    · cases h
  · cases h
section
variable {X : Cx}
theorem opq_inX (hu : X.A.units + 65 < cLine) : OpQ X (compareOp .In) gInX := by
  refine ⟨fun x y H Q => ∃ d ds, Dp X.K H x d ∧ Dp X.K H y (.tuple ds) ∧ SeqAt.shaped d = true ∧ SeqAt.shaped (.tuple ds) = true ∧ Q (.bl (ds.any fun z => PyData.eqv z d)) H, ?_, fun a b x y H Hf ρ S Q d hr wa wb e q => ?_⟩
  · intro pins s σ H x y v u Q I rx ry h
    obtain ⟨d, ds, hd, he, sd, se, q⟩ := h
    obtain ⟨as, r1⟩ := Dp.reads I d x v hd rx
    obtain ⟨bs, r2⟩ := Dp.reads I (.tuple ds) y u he ry
    exact SeqAt.in_tuple_reads r2 r1 (SeqAt.canLay_of_shaped se) (SeqAt.canLay_of_shaped sd) (room_in_shaped sd hu) ⟨.bl _, H, I, rfl, q⟩
  · simp only [gInX, Option.map_eq_some_iff] at e
    obtain ⟨r, e, rfl⟩ := e
    obtain ⟨p, ds, e1, e2, s1, s2, rfl⟩ := gInD2_inv e
    exact ⟨p, ds, wa.dp hr e1, wb.dp hr e2, s1, s2, q _ _ _ _ hr (Tr.refl _ _ _) rfl⟩
theorem opq_ninX (hu : X.A.units + 65 < cLine) : OpQ X (compareOp .NotIn) gNinX := by
  refine ⟨fun x y H Q => ∃ d ds, Dp X.K H x d ∧ Dp X.K H y (.tuple ds) ∧ SeqAt.shaped d = true ∧ SeqAt.shaped (.tuple ds) = true ∧ Q (.bl (!ds.any fun z => PyData.eqv z d)) H, ?_, fun a b x y H Hf ρ S Q d hr wa wb e q => ?_⟩
  · intro pins s σ H x y v u Q I rx ry h
    obtain ⟨d, ds, hd, he, sd, se, q⟩ := h
    obtain ⟨as, r1⟩ := Dp.reads I d x v hd rx
    obtain ⟨bs, r2⟩ := Dp.reads I (.tuple ds) y u he ry
    exact SeqAt.notIn_tuple_reads r2 r1 (SeqAt.canLay_of_shaped se) (SeqAt.canLay_of_shaped sd) (room_in_shaped sd hu) ⟨.bl _, H, I, rfl, q⟩
  · simp only [gNinX, Option.map_eq_some_iff] at e
    obtain ⟨r, e, rfl⟩ := e
    obtain ⟨p, ds, e1, e2, s1, s2, rfl⟩ := gInD2_inv e
    exact ⟨p, ds, wa.dp hr e1, wb.dp hr e2, s1, s2, q _ _ _ _ hr (Tr.refl _ _ _) rfl⟩
end
theorem Wd.hu2 {X : Cx} {P : Program} {w : World} {K : PySem.W.Frag} {mg : Str → Option Value} {base : Heap} {k : Nat} (h : Wd X P w K mg base k) : X.A.units + 65 < cLine := by
  have := h.room.un
  omega
end DL

end

section
set_option autoImplicit false
set_option autoImplicit false
namespace DL
open PySem PySem.Spec PyProof.Rows L2
/-! ### is, is not of bools -/
def gIsB : D → D → Option D
  | .bl a, .bl b => some (.bl (decide (a = b)))
  | _, _ => none
def gIsNB : D → D → Option D
  | .bl a, .bl b => some (.bl (!decide (a = b)))
  | _, _ => none
section
variable {X : Cx}
theorem opq_isB : OpQ X (compareOp .Is) gIsB := by
  refine ⟨_, op_isBl, fun a b x y H Hf ρ S Q d hr wa wb e q => ?_⟩
  unfold gIsB at e
  split at e
  · cases e
    exact ⟨_, _, wa, wb, q _ _ _ _ hr (Tr.refl _ _ _) rfl⟩
  · cases e
theorem opq_isNB : OpQ X (compareOp .IsNot) gIsNB := by
  refine ⟨_, op_notBl, fun a b x y H Hf ρ S Q d hr wa wb e q => ?_⟩
  unfold gIsNB at e
  split at e
  · cases e
    exact ⟨_, _, wa, wb, q _ _ _ _ hr (Tr.refl _ _ _) rfl⟩
  · cases e
end
end DL

end

section
set_option autoImplicit false
set_option autoImplicit false
namespace DL
open PySem PySem.Spec PyProof.Rows L2
theorem pe_or {X : Cx} {e : Expr} {t1 t2 : TE} (h1 : PE X e t1) (h2 : PE X e t2) : PE X e (fun σ H Q => t1 σ H Q ∨ t2 σ H Q) :=
  ⟨fun pins s σ H Q I h => h.elim (h1.run pins s σ H Q I) (h2.run pins s σ H Q I)⟩
/-- what is never reached -/
def fStk : FE := fun _ _ _ => .stk
def fStkS : FS := fun _ _ _ => .stk
theorem pe_never {X : Cx} {e : Expr} : PE X e (fun _ _ _ => False) := ⟨fun _ _ _ _ _ _ h => h.elim⟩
theorem q_never {X : Cx} {B : Gr} {W : WX} {e : Expr} : QE X B W e fStk := ⟨_, pe_never, fun _ _ _ _ _ _ _ _ _ p => p⟩
theorem ps_never {X : Cx} {st : Stmt} : PS X st (fun _ _ _ => False) := ⟨fun _ _ _ _ _ _ h => h.elim⟩
theorem s_never {X : Cx} {B : Gr} {W : WX} {st : Stmt} : QS X B W st fStkS := ⟨_, ps_never, fun _ _ _ _ _ _ _ _ _ p => p⟩
/-! ### operators that make new lists -/
def OpF (X : Cx) (F : Value → Value → Sem Value) (g : D → D → Option D) : Prop := ∃ r, OpR X F r ∧
  ∀ a b x y H Hf ρ S Q d, HR X.K H Hf ρ S → Dw X.K H Hf ρ a x → Dw X.K H Hf ρ b y → g a b = some d →
    (∀ p H' Hf' ρ', HR X.K H' Hf' ρ' S → Tr H Hf ρ H' Hf' ρ' → H p = none → Hf' p = none → p ∉ ρ' → OwnAt X.K H' Hf' ρ' p d → Q (.ref p) H') → r x y H Q
theorem new_own {K : PySem.W.Frag} {H Hf : Hp} {ρ : List Addr} {S : Store} {d : D} {o : HO} {p : Addr} {Q : VK} (hr : HR K H Hf ρ S) (hp : H p = none) (hd : OwnAt K (upd H p o) Hf ρ p d)
    (q : ∀ p H' Hf' ρ', HR K H' Hf' ρ' S → Tr H Hf ρ H' Hf' ρ' → H p = none → Hf' p = none → p ∉ ρ' → OwnAt K H' Hf' ρ' p d → Q (.ref p) H') : Q (.ref p) (upd H p o) :=
  q p _ _ _ (hr.own (hr.hnone hp) (hr.notin hp)) (Tr.own hp) hp (hr.hnone hp) (hr.notin hp) hd
section
variable {X : Cx} {B : Gr} {W : WX} {pos : Pos} {a b : Expr} {fa fb : FE}
theorem q_twoF {g : D → D → Option D} {ta tb : TE} {r : R2}
    (ha : ∀ n E S σ H Hf ρ Q, Rel X.K B E S σ H Hf ρ → PostR X.K W σ H Hf ρ Q (fa n E S) → ta σ H Q)
    (hb : ∀ n E S σ H Hf ρ Q, Rel X.K B E S σ H Hf ρ → PostR X.K W σ H Hf ρ Q (fb n E S) → tb σ H Q)
    (hr : ∀ a b x y H Hf ρ S Q d, HR X.K H Hf ρ S → Dw X.K H Hf ρ a x → Dw X.K H Hf ρ b y → g a b = some d →
      (∀ p H' Hf' ρ', HR X.K H' Hf' ρ' S → Tr H Hf ρ H' Hf' ρ' → H p = none → Hf' p = none → p ∉ ρ' → OwnAt X.K H' Hf' ρ' p d → Q (.ref p) H') → r x y H Q)
    (n : Nat) (E : Env) (S : Store) (σ : L2.St) (H Hf : Hp) (ρ : List Addr) (Q : VK) (R : Rel X.K B E S σ H Hf ρ) (p : PostF X.K W σ H Hf ρ Q (fOp g fa fb n E S)) : tOp r ta tb σ H Q := by
  refine ha n E S σ H Hf ρ _ R ?_
  unfold fOp at p
  cases ea : fa n E S with
  | stk => rw [ea] at p; exact p
  | exc x S1 => rw [ea] at p; exact p
  | ok d1 S1 =>
    rw [ea] at p
    intro x H1 Hf1 ρ1 hr1 t1 w1
    refine hb n E S1 σ H1 Hf1 ρ1 _ (R.step hr1 t1) ?_
    have p : PostF X.K W σ H Hf ρ Q ((fb n E S1).bind fun b S2 => match g d1 b with | some d => .ok d S2 | none => .stk) := p
    cases eb : fb n E S1 with
    | stk => rw [eb] at p; exact p
    | exc x S2 => rw [eb] at p; exact PostX.tr t1 p
    | ok d2 S2 =>
      rw [eb] at p
      intro y H2 Hf2 ρ2 hr2 t2 w2
      have p : PostF X.K W σ H Hf ρ Q (match g d1 d2 with | some d => .ok d S2 | none => .stk) := p
      cases eg : g d1 d2 with
      | none => rw [eg] at p; exact p.elim
      | some d =>
        rw [eg] at p
        refine hr d1 d2 x y H2 Hf2 ρ2 S2 Q d hr2 (w1.mono t2 hr1) w2 eg fun q H' Hf' ρ' h1 h2 h0 h3 h4 h5 => ?_
        exact p q H' Hf' ρ' h1 ((t1.trans t2).trans h2) (tr_none (t1.trans t2) q h0) h3 h4 h5
theorem f_op {op : Operator} {g : D → D → Option D} (ho : OpF X (binaryOp op) g) (ha : QR X B W a fa) (hb : QR X B W b fb) : QF X B W (.BinOp a op b pos) (fOp g fa fb) := by
  obtain ⟨r, h1, h2⟩ := ho
  obtain ⟨ta, a1, a2⟩ := ha
  obtain ⟨tb, b1, b2⟩ := hb
  exact ⟨_, pe_op h1 a1 b1, q_twoF a2 b2 h2⟩
theorem opf_rep : OpF X (binaryOp .Mult) gRep := by
  refine ⟨_, op_rep, fun a b x y H Hf ρ S Q d hr wa wb e q => ?_⟩
  unfold gRep at e
  split at e
  · rename_i l k
    split at e
    · rename_i hc
      simp only [Bool.and_eq_true, decide_eq_true_eq] at hc
      cases e
      obtain ⟨z, vs, rfl, _, h1, h2⟩ := wa
      have wb : y = .int k := wb
      refine ⟨z, k, vs, rfl, wb, h1, hc.1.2, hc.1.1, by rw [← h2.length]; exact hc.2, fun p hp => ?_⟩
      exact new_own (d := .lst (List.replicate k.toNat l).flatten) hr hp ⟨_, upd_same, h2.rep _⟩ q
    · cases e
  · cases e
theorem opf_add : OpF X (binaryOp .Add) gAddL := by
  refine ⟨_, op_cat, fun a b x y H Hf ρ S Q d hr wa wb e q => ?_⟩
  unfold gAddL at e
  split at e
  · rename_i i j
    split at e
    · rename_i hc
      cases e
      obtain ⟨l, vs, rfl, _, h1, h2⟩ := wa
      obtain ⟨m, us, rfl, _, h3, h4⟩ := wb
      refine ⟨l, m, vs, us, rfl, rfl, h1, h3, by rw [← h2.length, ← h4.length]; exact hc, fun p hp => ?_⟩
      exact new_own (d := .lst (i ++ j)) hr hp ⟨_, upd_same, h2.append h4⟩ q
    · cases e
  · cases e
end
/-! ### dicts -/
/-- what a dict of data has for a key -/
def lkD (l : List (Key × D)) (k : Key) : Option D := (l.find? fun kv => decide (kv.1 = k)).map (·.2)
def puD (l : List (Key × D)) (k : Key) (d : D) : List (Key × D) :=
  if (l.any fun kv => decide (kv.1 = k)) = true then l.map (fun kv => if kv.1 = k then (kv.1, d) else kv) else l ++ [(k, d)]
def keyD : D → Option Key
  | .int i => some (.inl i)
  | .str s => some (.inr s)
  | _ => none
section
variable {K : PySem.W.Frag} {H Hf : Hp} {ρ : List Addr}
theorem keyD_v {d : D} {k : Key} {v : V} (h : keyD d = some k) (w : Dw K H Hf ρ d v) : v = kV k := by
  unfold keyD at h
  split at h <;> cases h
  · exact w
  · exact w
theorem Dks.look : ∀ {l : List (Key × D)} {vs : List (Key × V)} {k : Key}, Dks K Hf ρ l vs → (∀ d, lkD l k = some d → ∃ v, valV vs k = some v ∧ Dt K Hf ρ d v) ∧ (lkD l k = none → valV vs k = none)
  | [], vs, k, h => by
    simp only [Dks] at h; subst h
    exact ⟨fun d e => by simp [lkD] at e, fun _ => rfl⟩
  | (j, c) :: l, vs, k, h => by
    simp only [Dks] at h
    obtain ⟨v, r, rfl, h1, h2⟩ := h
    obtain ⟨i1, i2⟩ := Dks.look (k := k) h2
    by_cases e : j = k
    · refine ⟨fun d q => ?_, fun q => ?_⟩
      · simp [lkD, List.find?_cons, e] at q
        subst q
        exact ⟨v, valV_pos e, h1⟩
      · simp [lkD, List.find?_cons, e] at q
    · have e0 : lkD ((j, c) :: l) k = lkD l k := by simp [lkD, List.find?_cons, e]
      rw [e0, valV_neg e]
      exact ⟨i1, i2⟩
theorem Dks.any : ∀ {l : List (Key × D)} {vs : List (Key × V)} (k : Key), Dks K Hf ρ l vs → (l.any fun kv => decide (kv.1 = k)) = vs.any fun kv => decide (kv.1 = k)
  | [], vs, k, h => by simp only [Dks] at h; subst h; rfl
  | (j, c) :: l, vs, k, h => by
    simp only [Dks] at h
    obtain ⟨v, r, rfl, h1, h2⟩ := h
    simp only [List.any_cons, Dks.any k h2]
theorem Dks.len : ∀ {l : List (Key × D)} {vs : List (Key × V)}, Dks K Hf ρ l vs → l.length = vs.length
  | [], vs, h => by simp only [Dks] at h; subst h; rfl
  | (j, c) :: l, vs, h => by
    simp only [Dks] at h
    obtain ⟨v, r, rfl, h1, h2⟩ := h
    simp [Dks.len h2]
theorem Dks.keys : ∀ {l : List (Key × D)} {vs : List (Key × V)}, Dks K Hf ρ l vs → vs.map (·.1) = l.map (·.1)
  | [], vs, h => by simp only [Dks] at h; subst h; rfl
  | (j, c) :: l, vs, h => by
    simp only [Dks] at h
    obtain ⟨v, r, rfl, h1, h2⟩ := h
    simp [Dks.keys h2]
theorem Dks.snoc : ∀ {l : List (Key × D)} {vs : List (Key × V)} {k : Key} {d : D} {v : V}, Dks K Hf ρ l vs → Dt K Hf ρ d v → Dks K Hf ρ (l ++ [(k, d)]) (vs ++ [(k, v)])
  | [], vs, k, d, v, h, w => by simp only [Dks] at h; subst h; exact ⟨v, [], rfl, w, rfl⟩
  | (j, c) :: l, vs, k, d, v, h, w => by
    simp only [Dks] at h
    obtain ⟨u, r, rfl, h1, h2⟩ := h
    exact ⟨u, r ++ [(k, v)], rfl, h1, Dks.snoc h2 w⟩
theorem Dks.upd : ∀ {l : List (Key × D)} {vs : List (Key × V)} {k : Key} {d : D} {v : V}, Dks K Hf ρ l vs → Dt K Hf ρ d v → Dks K Hf ρ (l.map fun kv => if kv.1 = k then (kv.1, d) else kv) (vs.map fun kv => if kv.1 = k then (kv.1, v) else kv)
  | [], vs, k, d, v, h, w => by simp only [Dks] at h; subst h; rfl
  | (j, c) :: l, vs, k, d, v, h, w => by
    simp only [Dks] at h
    obtain ⟨u, r, rfl, h1, h2⟩ := h
    have ih := Dks.upd (k := k) h2 w
    simp only [List.map_cons]
    by_cases e : j = k
    · rw [if_pos e, if_pos e]; exact ⟨v, _, rfl, w, ih⟩
    · rw [if_neg e, if_neg e]; exact ⟨u, _, rfl, h1, ih⟩
theorem Dks.put {l : List (Key × D)} {vs : List (Key × V)} {k : Key} {d : D} {v : V} (h : Dks K Hf ρ l vs) (w : Dt K Hf ρ d v) : Dks K Hf ρ (puD l k d) (putK vs k v) := by
  unfold puD putK
  rw [h.any k]
  split
  · exact h.upd w
  · exact h.snoc w
end
theorem DGetR {H : Hp} {a : Addr} {kvs : List (Key × V)} {k : Key} (e : Rd H a (.dK kvs)) : DGet H a (kV k) (valV kvs k) := .inl ⟨kvs, k, e, rfl, rfl⟩
def gDGet : D → D → Option D
  | .dct l, k => (keyD k).bind fun k => lkD l k
  | _, _ => none
def gDIn : D → D → Option D
  | k, .dct l => (keyD k).map fun k => .bl (lkD l k).isSome
  | _, _ => none
def gDNin : D → D → Option D
  | k, .dct l => (keyD k).map fun k => .bl (!(lkD l k).isSome)
  | _, _ => none
section
variable {X : Cx} {B : Gr} {W : WX} {pos : Pos} {a b c : Expr} {fa fb fc : FE}
theorem q_dget (hu : X.A.units + 1 < cLine) (hs : NoSl b) (ha : QR X B W a fa) (hb : QR X B W b fb) : QE X B W (.Subscript a b pos) (fOp gDGet fa fb) := by
  obtain ⟨ta, a1, a2⟩ := ha
  obtain ⟨tb, b1, b2⟩ := hb
  refine ⟨_, pe_dget hu a1 b1 hs, q_two (r := fun x y H Q => ∃ a v, x = .ref a ∧ DGet H a y (some v) ∧ Q v H) a2 b2 fun d e x y H Hf ρ S Q r hr wa wb g q => ?_⟩
  unfold gDGet at g
  split at g
  · rename_i l
    obtain ⟨k, hk, g⟩ := Option.bind_eq_some_iff.mp g
    obtain ⟨p, vs, rfl, _, h1, h2⟩ := wa
    obtain ⟨v, h3, h4⟩ := (h2.look (k := k)).1 r g
    refine ⟨p, v, rfl, ?_, q v H Hf ρ hr (Tr.refl _ _ _) h4⟩
    rw [keyD_v hk wb, ← h3]
    exact DGetR h1
  · cases g
theorem din_r {K : PySem.W.Frag} {d e r : D} {x y : V} {H Hf : Hp} {ρ : List Addr} {l : List (Key × D)} {k : Key} (hk : keyD d = some k) (wa : Dw K H Hf ρ d x) (wb : Dw K H Hf ρ (.dct l) y) :
    ∃ p o, y = .ref p ∧ DGet H p x o ∧ o.isSome = (lkD l k).isSome := by
  obtain ⟨p, vs, rfl, _, h1, h2⟩ := wb
  refine ⟨p, valV vs k, rfl, by rw [keyD_v hk wa]; exact DGetR h1, ?_⟩
  obtain ⟨i1, i2⟩ := h2.look (k := k)
  cases e : lkD l k with
  | none => rw [i2 e]; rfl
  | some d => obtain ⟨v, h3, _⟩ := i1 d e; rw [h3]; rfl
theorem q_din (hu : X.A.units + 1 < cLine) (ha : QR X B W a fa) (hb : QR X B W b fb) (hm : behindInMarks .In b = false) : QE X B W (.Compare a [.In] [b] pos) (fOp gDIn fa fb) := by
  obtain ⟨ta, a1, a2⟩ := ha
  obtain ⟨tb, b1, b2⟩ := hb
  refine ⟨_, pe_cmp (pc_din hu a1 b1) hm, q_two (r := fun y x H Q => ∃ a o, x = .ref a ∧ DGet H a y o ∧ Q (.bl o.isSome) H) a2 b2 fun d e x y H Hf ρ S Q r hr wa wb g q => ?_⟩
  unfold gDIn at g
  split at g
  · rename_i l
    obtain ⟨k, hk, rfl⟩ := Option.map_eq_some_iff.mp g
    obtain ⟨p, o, h1, h2, h3⟩ := din_r (e := .non) (r := .non) hk wa wb
    refine ⟨p, o, h1, h2, ?_⟩
    rw [h3]
    exact q _ H Hf ρ hr (Tr.refl _ _ _) rfl
  · cases g
theorem q_dnin (hu : X.A.units + 1 < cLine) (ha : QR X B W a fa) (hb : QR X B W b fb) (hm : behindInMarks .NotIn b = false) : QE X B W (.Compare a [.NotIn] [b] pos) (fOp gDNin fa fb) := by
  obtain ⟨ta, a1, a2⟩ := ha
  obtain ⟨tb, b1, b2⟩ := hb
  refine ⟨_, pe_cmp (pc_dnotin hu a1 b1) hm, q_two (r := fun y x H Q => ∃ a o, x = .ref a ∧ DGet H a y o ∧ Q (.bl (!o.isSome)) H) a2 b2 fun d e x y H Hf ρ S Q r hr wa wb g q => ?_⟩
  unfold gDNin at g
  split at g
  · rename_i l
    obtain ⟨k, hk, rfl⟩ := Option.map_eq_some_iff.mp g
    obtain ⟨p, o, h1, h2, h3⟩ := din_r (e := .non) (r := .non) hk wa wb
    refine ⟨p, o, h1, h2, ?_⟩
    rw [h3]
    exact q _ H Hf ρ hr (Tr.refl _ _ _) rfl
  · cases g
/-- a bool as a test: a comparison that has its own rule -/
theorem t_pc {op : CmpOp} {t : TE} {g : FE} (hp : PC X op a b t) (hm : behindInMarks op b = false) (hq : ∀ n E S σ H Hf ρ Q, Rel X.K B E S σ H Hf ρ → PostE X.K W σ H Hf ρ Q (g n E S) → t σ H Q) : QT X B W (.Compare a [op] [b] pos) (fBool g) :=
  ⟨_, pt_cmp hp hm, fun n E S σ H Hf ρ Q r p => hq n E S σ H Hf ρ _ r (PostE.ofBool p)⟩
theorem t_din (hu : X.A.units + 1 < cLine) (ha : QR X B W a fa) (hb : QR X B W b fb) (hm : behindInMarks .In b = false) : QT X B W (.Compare a [.In] [b] pos) (fBool (fOp gDIn fa fb)) := by
  obtain ⟨ta, a1, a2⟩ := ha
  obtain ⟨tb, b1, b2⟩ := hb
  refine t_pc (pc_din hu a1 b1) hm (q_two (r := fun y x H Q => ∃ a o, x = .ref a ∧ DGet H a y o ∧ Q (.bl o.isSome) H) a2 b2 fun d e x y H Hf ρ S Q r hr wa wb g q => ?_)
  unfold gDIn at g
  split at g
  · rename_i l
    obtain ⟨k, hk, rfl⟩ := Option.map_eq_some_iff.mp g
    obtain ⟨p, o, h1, h2, h3⟩ := din_r (e := .non) (r := .non) hk wa wb
    refine ⟨p, o, h1, h2, ?_⟩
    rw [h3]
    exact q _ H Hf ρ hr (Tr.refl _ _ _) rfl
  · cases g
theorem t_dnin (hu : X.A.units + 1 < cLine) (ha : QR X B W a fa) (hb : QR X B W b fb) (hm : behindInMarks .NotIn b = false) : QT X B W (.Compare a [.NotIn] [b] pos) (fBool (fOp gDNin fa fb)) := by
  obtain ⟨ta, a1, a2⟩ := ha
  obtain ⟨tb, b1, b2⟩ := hb
  refine t_pc (pc_dnotin hu a1 b1) hm (q_two (r := fun y x H Q => ∃ a o, x = .ref a ∧ DGet H a y o ∧ Q (.bl (!o.isSome)) H) a2 b2 fun d e x y H Hf ρ S Q r hr wa wb g q => ?_)
  unfold gDNin at g
  split at g
  · rename_i l
    obtain ⟨k, hk, rfl⟩ := Option.map_eq_some_iff.mp g
    obtain ⟨p, o, h1, h2, h3⟩ := din_r (e := .non) (r := .non) hk wa wb
    refine ⟨p, o, h1, h2, ?_⟩
    rw [h3]
    exact q _ H Hf ρ hr (Tr.refl _ _ _) rfl
  · cases g
end
/-- {} -/
def fDNew : FE := fun _ _ S => .ok (.dct []) S
theorem f_dnew {X : Cx} {B : Gr} {W : WX} {pos : Pos} : QF X B W (.Dict [] [] pos) fDNew :=
  ⟨_, pe_dnewK, fun n E S σ H Hf ρ Q r p q hq => p q _ _ _ (r.hr.own (r.hr.hnone hq) (r.hr.notin hq)) (Tr.own hq) hq (r.hr.hnone hq) (r.hr.notin hq) ⟨[], upd_same, rfl⟩⟩
end DL

end

section
set_option autoImplicit false
set_option autoImplicit false
namespace DL
open PySem PySem.Spec PyProof.Rows L2
/-! ### d[k] = v, d of one's own -/
def fDSet (i : Nat) (fk fv : FE) : FS := fun n E S => match fv n E S with
  | .ok d S1 => match E[i]? with
    | some (some (.own (.dct l))) => match fk n E S1 with
      | .ok dk S2 => match keyD dk with
        | some k => if l.length < 1000000 then .nx (E.set i (some (.own (.dct (puD l k d))))) S2 else .stk
        | none => .stk
      | .exc x S1 => .ex x E S1
      | .stk => .stk
    | _ => .stk
  | .exc x S1 => .ex x E S1
  | .stk => .stk
section
variable {X : Cx} {B : Gr} {W : WX} {pos pos' p1 p2 p3 : Pos} {e k : Expr} {fe fk : FE} {x y : Str} {i j : Nat}
theorem s_dset (hu : X.A.units + 1 < cLine) (v : Vr X i x) (hk : QR X B W k fk) (he : QE X B W e fe) (hs : swapsWith e (some (.Subscript (.Name x p1) k p2)) pos.line X.env = pure false) :
    QS X B W (.Assign [.Subscript (.Name x p1) k p2] e pos) (fDSet i fk fe) := by
  obtain ⟨t, a1, a2⟩ := he
  obtain ⟨u, b1, b2⟩ := hk
  refine ⟨_, ps_dput hu (pe_var v.ix v.vis v.db v.cd) b1 a1 hs, fun n E S σ H Hf ρ Q r p => a2 n E S σ H Hf ρ _ r ?_⟩
  unfold fDSet at p
  cases e1 : fe n E S with
  | stk => rw [e1] at p; exact p
  | exc y S1 => rw [e1] at p; exact fun c od H' Hf' ρ' a b d => p c od σ H' Hf' ρ' (r.step a b) b.hf b.pre d
  | ok d S1 =>
    rw [e1] at p
    intro v H1 Hf1 ρ1 hr1 t1 w1
    have r1 := r.step hr1 t1
    dsimp only at p
    split at p
    · rename_i l el
      obtain ⟨a, h1, h2, h3, h4, vs, h5, h6⟩ := r1.sl i _ el
      refine ⟨.ref a, h1, b2 n E S1 σ H1 Hf1 ρ1 _ r1 ?_⟩
      cases e2 : fk n E S1 with
      | stk => rw [e2] at p; exact p
      | exc y S2 => rw [e2] at p; exact fun c od H' Hf' ρ' a b d => p c od σ H' Hf' ρ' (r1.step a b) (t1.hf.trans b.hf) (t1.pre.trans b.pre) d
      | ok dk S2 =>
        rw [e2] at p
        intro z H2 Hf2 ρ2 hr2 t2 w2
        have r2 := r1.step hr2 t2
        dsimp only at p
        split at p
        · rename_i kk hkk
          by_cases hl : l.length < 1000000
          · rw [if_pos hl] at p
            obtain ⟨a', g1, g2, g3, g4, us, g5, g6⟩ := r2.sl i _ el
            rw [h1] at g1; cases g1
            refine ⟨a, _, rfl, ?_, p _ _ _ _ (r2.updOwn el h1 g2 g3 g4 ⟨putK us kk v, upd_same, g6.put (w1.mono t2.hf t2.pre)⟩) (t1.hf.trans t2.hf) (t1.pre.trans t2.pre)⟩
            rw [keyD_v hkk w2]
            exact DPut.k g5 (by rw [← g6.len]; exact Nat.lt_of_lt_of_le hl (by decide))
          · rw [if_neg hl] at p; exact p.elim
        · exact p.elim
    · exact p.elim
/-! ### y = xs.pop() -/
def fPop (i j : Nat) : FS := fun n E S => match E[i]? with
  | some (some (.own (.lst l))) => match l[l.length - 1]? with
    | some d => .nx ((E.set i (some (.own (.lst l.dropLast)))).set j (some (.fz d))) S
    | none => .stk
  | _ => .stk
theorem Dts.dropLast {K : PySem.W.Frag} {Hf : Hp} {ρ : List Addr} {l : List D} {vs : List V} (h : Dts K Hf ρ l vs) : Dts K Hf ρ l.dropLast vs.dropLast := by
  rw [List.dropLast_eq_take, List.dropLast_eq_take, h.length]
  exact h.take _
theorem s_pop (v : Vr X i x) (l : Lr X j y) (hbase : attributeBase (.Name x p1) "pop" X.env (eval (.Name x p1) X.env) = eval (.Name x p1) X.env) (hline : (p2.endLine == p3.line) = true)
    (hs : swapsWith (.Call (.Attribute (.Name x p1) "pop" p2) [] [] p3) (some (.Name y pos')) pos.line X.env = pure false) :
    QS X B W (.Assign [.Name y pos'] (.Call (.Attribute (.Name x p1) "pop" p2) [] [] p3) pos) (fPop i j) := by
  refine ⟨_, ps_set l.nd l.ix l.loc (pe_bm0 PySem.F.plainAttrs_list PySem.F.slot_list_pop PySem.F.type_list_pop mt_pop (pe_var v.ix v.vis v.db v.cd) hbase hline) hs l.fn, fun n E S σ H Hf ρ Q r p => ?_⟩
  unfold fPop at p
  split at p
  · rename_i l el
    obtain ⟨a, h1, h2, h3, h4, vs, h5, h6⟩ := r.sl i _ el
    split at p
    · rename_i d hd
      obtain ⟨w, hw, hdw⟩ := h6.get hd
      refine ⟨.ref a, h1, .inl ⟨rfl, vs, SqL.of h5⟩, a, vs, w, rfl, rfl, h5, by rw [← h6.length]; exact hw, ?_⟩
      have r2 := r.updOwn el h1 h2 h3 h4 (o := .lst vs.dropLast) (d' := .lst l.dropLast) ⟨vs.dropLast, upd_same, h6.dropLast⟩
      exact p _ _ _ _ (r2.set j hdw) (Ext.refl _) (Pre.refl _)
    · exact p.elim
  · exact p.elim
/-! ### d.get(k, x) -/
def fDGet2 (fd fk fx : FE) : FE := fun n E S => (fd n E S).bind fun d S1 => match d with
  | .dct l => (fk n E S1).bind fun dk S2 => (fx n E S2).bind fun z S3 => match keyD dk with
    | some k => .ok ((lkD l k).getD z) S3
    | none => .stk
  | _ => .stk
theorem q_dget2 {o f : Expr} {fd fx : FE} {apos cpos : Pos} (hu : X.A.units + 1 < cLine) (ho : QR X B W o fd) (hk : QR X B W e fk) (hf : QE X B W f fx) (m : M2 X o "get" apos e f cpos) :
    QE X B W (.Call (.Attribute o "get" apos) [e, f] [] cpos) (fDGet2 fd fk fx) := by
  obtain ⟨to, a1, a2⟩ := ho
  obtain ⟨tk, b1, b2⟩ := hk
  obtain ⟨tf, c1, c2⟩ := hf
  refine ⟨_, pe_dget2 hu a1 b1 c1 m, fun n E S σ H Hf ρ Q r p => a2 n E S σ H Hf ρ _ r ?_⟩
  unfold fDGet2 at p
  cases e1 : fd n E S with
  | stk => rw [e1] at p; exact p
  | exc y S1 => rw [e1] at p; exact p
  | ok d S1 =>
    rw [e1] at p
    intro v H1 Hf1 ρ1 hr1 t1 w1
    have r1 := r.step hr1 t1
    cases d <;> try exact p.elim
    rename_i l
    obtain ⟨a, vs, rfl, g1, g2, g3⟩ := id w1
    refine ⟨a, rfl, .inl ⟨vs, g2⟩, b2 n E S1 σ H1 Hf1 ρ1 _ r1 ?_⟩
    have p : PostE X.K W σ H Hf ρ Q ((fk n E S1).bind fun dk S2 => (fx n E S2).bind fun z S3 => match keyD dk with
      | some k => .ok ((lkD l k).getD z) S3
      | none => .stk) := p
    cases e2 : fk n E S1 with
    | stk => rw [e2] at p; exact p
    | exc y S2 => rw [e2] at p; exact PostX.tr t1 p
    | ok dk S2 =>
      rw [e2] at p
      intro y H2 Hf2 ρ2 hr2 t2 w2
      have r2 := r1.step hr2 t2
      refine c2 n E S2 σ H2 Hf2 ρ2 _ r2 ?_
      have p : PostE X.K W σ H Hf ρ Q ((fx n E S2).bind fun z S3 => match keyD dk with
        | some k => .ok ((lkD l k).getD z) S3
        | none => .stk) := p
      cases e3 : fx n E S2 with
      | stk => rw [e3] at p; exact p
      | exc y S3 => rw [e3] at p; exact PostX.tr (t1.trans t2) p
      | ok z S3 =>
        rw [e3] at p
        intro q H3 Hf3 ρ3 hr3 t3 w3
        have p : PostE X.K W σ H Hf ρ Q (match keyD dk with
          | some k => .ok ((lkD l k).getD z) S3
          | none => .stk) := p
        split at p
        · rename_i k hk
          have wd := Dw.mono (t2.trans t3) hr1 w1
          have wk := Dw.mono t3 hr2 w2
          obtain ⟨a', vs', e', k1, k2, k3⟩ := wd
          cases e'
          obtain ⟨i1, i2⟩ := k3.look (k := k)
          rw [keyD_v hk wk]
          refine ⟨valV vs' k, DGetR k2, ?_⟩
          cases e4 : lkD l k with
          | none =>
            rw [i2 e4]
            rw [e4] at p
            exact p q H3 Hf3 ρ3 hr3 ((t1.trans t2).trans t3) w3
          | some d =>
            obtain ⟨v, h3, h4⟩ := i1 d e4
            rw [h3]
            rw [e4] at p
            exact p v H3 Hf3 ρ3 hr3 ((t1.trans t2).trans t3) h4
        · exact p.elim
end
/-! ### slices -/
abbrev FO := Nat → Env → Store → Res (Option Int)
def foN : FO := fun _ _ S => .ok none S
def foS (f : FE) : FO := fun n E S => (f n E S).bind fun d S1 => match d with
  | .int i => .ok (some i) S1
  | _ => .stk
def PostO (K : PySem.W.Frag) (W : WX) (σ : L2.St) (H Hf : Hp) (ρ : List Addr) (Q : Option Int → Hp → Prop) : Res (Option Int) → Prop
  | .ok d S' => ∀ H' Hf' ρ', HR K H' Hf' ρ' S' → Tr H Hf ρ H' Hf' ρ' → Q d H'
  | .exc x S' => PostX K W σ H Hf ρ x S'
  | .stk => False
def QO (X : Cx) (B : Gr) (W : WX) (e : Option Expr) (f : FO) : Prop := ∃ t, PO X e t ∧ ∀ n E S σ H Hf ρ Q, Rel X.K B E S σ H Hf ρ → PostO X.K W σ H Hf ρ Q (f n E S) → t σ H Q
def cutD (l : List D) (lo hi : Option Int) : List D := (l.drop (HT.sIx l.length 0 lo)).take (HT.sIx l.length l.length hi - HT.sIx l.length 0 lo)
def gSl (d : D) (lo hi : Option Int) : Option D := match d with
  | .lst l => some (.lst (cutD l lo hi))
  | .tup l => some (.tup (cutD l lo hi))
  | _ => none
def fSl (f : FE) (lo hi : FO) : FE := fun n E S => (f n E S).bind fun d S1 => (lo n E S1).bind fun a S2 => (hi n E S2).bind fun b S3 => match gSl d a b with
  | some r => .ok r S3
  | none => .stk
section
variable {X : Cx} {B : Gr} {W : WX} {pos p2 : Pos} {e : Expr} {fe : FE} {lo hi : Option Expr} {fl fh : FO}
theorem o_none : QO X B W none foN := ⟨_, po_none, fun n E S σ H Hf ρ Q r p => p H Hf ρ r.hr (Tr.refl _ _ _)⟩
theorem o_some (h : QE X B W e fe) : QO X B W (some e) (foS fe) := by
  obtain ⟨t, a1, a2⟩ := h
  refine ⟨_, po_some a1, fun n E S σ H Hf ρ Q r p => a2 n E S σ H Hf ρ _ r ?_⟩
  unfold foS at p
  cases e1 : fe n E S with
  | stk => rw [e1] at p; exact p
  | exc y S1 => rw [e1] at p; exact p
  | ok d S1 =>
    rw [e1] at p
    cases d <;> try exact p.elim
    rename_i i
    exact fun v H1 Hf1 ρ1 hr1 t1 w1 => ⟨i, w1, p H1 Hf1 ρ1 hr1 t1⟩
theorem Dts.cut {K : PySem.W.Frag} {Hf : Hp} {ρ : List Addr} {l : List D} {vs : List V} (h : Dts K Hf ρ l vs) (a b : Option Int) : Dts K Hf ρ (cutD l a b) (cutV vs a b) := by
  unfold cutD cutV
  rw [h.length]
  exact (h.drop _).take _
theorem q_slice (he : QR X B W e fe) (hl : QO X B W lo fl) (hh : QO X B W hi fh) : QE X B W (.Subscript e (.Slice lo hi none p2) pos) (fSl fe fl fh) := by
  obtain ⟨t, a1, a2⟩ := he
  obtain ⟨u, b1, b2⟩ := hl
  obtain ⟨w, c1, c2⟩ := hh
  refine ⟨_, pe_slice (sl_list.or sl_tupA) a1 b1 c1, fun n E S σ H Hf ρ Q r p => a2 n E S σ H Hf ρ _ r ?_⟩
  unfold fSl at p
  cases e1 : fe n E S with
  | stk => rw [e1] at p; exact p
  | exc y S1 => rw [e1] at p; exact p
  | ok d S1 =>
    rw [e1] at p
    intro v H1 Hf1 ρ1 hr1 t1 w1
    have r1 := r.step hr1 t1
    refine b2 n E S1 σ H1 Hf1 ρ1 _ r1 ?_
    have p : PostE X.K W σ H Hf ρ Q ((fl n E S1).bind fun a S2 => (fh n E S2).bind fun b S3 => match gSl d a b with
      | some r => .ok r S3
      | none => .stk) := p
    cases e2 : fl n E S1 with
    | stk => rw [e2] at p; exact p
    | exc y S2 => rw [e2] at p; exact PostX.tr t1 p
    | ok a S2 =>
      rw [e2] at p
      intro H2 Hf2 ρ2 hr2 t2
      have r2 := r1.step hr2 t2
      refine c2 n E S2 σ H2 Hf2 ρ2 _ r2 ?_
      have p : PostE X.K W σ H Hf ρ Q ((fh n E S2).bind fun b S3 => match gSl d a b with
        | some r => .ok r S3
        | none => .stk) := p
      cases e3 : fh n E S2 with
      | stk => rw [e3] at p; exact p
      | exc y S3 => rw [e3] at p; exact PostX.tr (t1.trans t2) p
      | ok b S3 =>
        rw [e3] at p
        intro H3 Hf3 ρ3 hr3 t3
        have p : PostE X.K W σ H Hf ρ Q (match gSl d a b with
          | some r => .ok r S3
          | none => .stk) := p
        have wd := Dw.mono (t2.trans t3) hr1 w1
        have tt := (t1.trans t2).trans t3
        cases d with
        | tup l =>
          obtain ⟨z, vs, rfl, h1, h2⟩ := (show Dt X.K Hf3 ρ3 (.tup l) v from wd)
          refine .inr ⟨z, vs, rfl, hr3.sub.sqT h1, fun ⟨y1, y2⟩ => ?_, fun _ q hq => ?_⟩
          · refine p _ _ _ _ hr3 tt ⟨z, vs, rfl, h1, ?_⟩
            have : cutD l a b = l := by
              unfold cutD
              rw [h2.length, y1, y2]
              simp [← h2.length]
            rw [this]; exact h2
          · refine new_ans (d := .tup (cutD l a b)) hr3 hq (fun Hf' ex hqq => ⟨q, _, rfl, SqT.of hqq, (h2.cut a b).mono ex (Pre.refl _)⟩) fun v H' Hf' ρ' k1 k2 k3 => p v H' Hf' ρ' k1 (tt.trans k2) k3
        | lst l =>
          obtain ⟨z, vs, rfl, _, h1, h2⟩ := wd
          refine .inl ⟨z, vs, rfl, SqL.of h1, fun q hq => ?_⟩
          exact new_ans (d := .lst (cutD l a b)) hr3 hq (fun Hf' ex hqq => ⟨q, _, rfl, hqq, (h2.cut a b).mono ex (Pre.refl _)⟩) fun v H' Hf' ρ' k1 k2 k3 => p v H' Hf' ρ' k1 (tt.trans k2) k3
        | _ => exact p.elim
end
end DL

end

section
set_option autoImplicit false
set_option autoImplicit false
namespace DL
open PySem PySem.Spec PyProof.Rows L2
section
variable {P : Program} {w : World} {A : Around} {E : Value → Shared → Prop} {s : Shared}
abbrev sob (w : World) : Obj := { cls := .type "set", dict := none, data := .set #[] 0 (.fresh 0 0 (!w.params.followText "set-order")) }
/-- set(xs), xs a list of ints: the table, told as SetR tells it -/
theorem set_ofList {l : Addr} {items : Array Value} (ns : List Int) {Q : Value → Shared → Prop} (hh : A.handled = none)
    (hl : s.heap.IsList l items) (hit : IntsAre items.toList ns) (hb : ns.length + 1 < scanBound)
    (h : ∀ (h' : Heap) (tk c : Nat), SetR w h' s.heap.objs.size (fun j => decide (j ∈ ns)) c → c ≤ ns.length →
      (∀ b o, s.heap.get? b = some o → h'.get? b = some o) → Q (.ref s.heap.objs.size) { s with heap := h', toks := tk }) :
    wpAny (model P w) A (call (.type "set") [.ref l]) Q E s := by
  have zn : items.size = ns.length := by
    have := IntsAre.length hit
    rwa [Array.length_toList] at this
  obtain ⟨cc, tl, hmro⟩ := F.called_set.mro
  have g1 := F.called_set.made
  have g2 := F.called_set.sub
  refine wpAny_call (codeAny_of_tree ?_)
  show wpAny _ _ (callAny (.type "set") _) _ _ _
  refine wpAny_pure ⟨Code.quiet_builtin _ (by decide +kernel), codeAny_builtin F.entry_type_call ?_⟩
  rw [Around.under_plain (weight_type_call_type "set" [.ref l] []) rfl]
  have g3 := F.called_set.notType
  have g4 := F.called_set.canCreate
  have g5 := F.typeCall_set_1 (.ref l)
  repeat (any_goals (first | assumption | wp_step))
  refine codeAny_mono (code_set_led1 (.ref l) (E := E)
    (Q₁ := fun obj s₁ => obj = .ref s.heap.objs.size ∧ s₁ = { s with heap := s.heap.push (sob w) }) ⟨rfl, rfl⟩) fun r s₁ hr => ?_
  cases r with
  | error e => exact hr
  | ok fl =>
    cases fl with
    | ret obj =>
      obtain ⟨rfl, rfl⟩ := hr
      have hS : (s.heap.push (sob w)).get? s.heap.objs.size = some (sob w) := Heap.get?_push_size _ rfl
      have hT : Shared.TypeIs { s with heap := s.heap.push (sob w) } (.ref s.heap.objs.size) "set" := ⟨_, hS, rfl⟩
      have j1 := F.called_set.init.lookup
      have j2 := F.called_set.init.bind (.ref s.heap.objs.size)
      repeat (any_goals (first | assumption | wp_step))
      refine codeAny_mono (codeAny_call_builtin (R := wants (fun r s₂ => r = .none ∧ ∃ h' tk c, s₂ = { s with heap := h', toks := tk } ∧
          SetR w h' s.heap.objs.size (fun j => decide (j ∈ ns)) c ∧ c ≤ ns.length ∧ (∀ b o, s.heap.get? b = some o → h'.get? b = some o)) E)
        F.called_set.init.plain F.entry_set_init (check_set_init_1 hT ?_)) fun r₂ s₂ hr₂ => ?_
      · obtain ⟨ol, hol, hcl, nl, hdl⟩ := hl
        obtain ⟨ocls, odict, odata, oslots⟩ := ol
        simp only at hcl hdl
        subst hcl hdl
        have k0 := Heap.get?_push_of_some (sob w) hol
        have k1 := F.sub_list_set
        have k2 := F.sub_list_frozenset
        have k3 : (Value.type "list" == Value.type "dict") = false := by decide
        have k4 : (s.heap.push (sob w)).IsList l items := ⟨_, k0, rfl, nl, rfl⟩
        unfold Builtin.«set.__init__» noKeywords Builtin.Frozenset.updateFrom
        generalize hPI : pyIter = PI
        wp_walk
        subst hPI
        refine wpAny_pyIter_list k4 ?_
        refine wpAny_bind (wpAny_runValue ?_)
        have k5 : l < s.heap.objs.size := Heap.lt_size hol
        have k6 : A.in1.in1.in1.handled = none := by simp [hh]
        have k7 : (s.heap.push (sob w)).objs.size = s.heap.objs.size + 1 := Heap.size_push ..
        have k8 : l ≠ (s.heap.push (sob w)).objs.size := by rw [k7]; exact Nat.ne_of_lt (Nat.lt_succ_of_lt k5)
        have k9 : s.heap.objs.size ∉ [(s.heap.push (sob w)).objs.size, l] := by
          rw [k7]
          intro z
          rcases List.mem_cons.mp z with z | z
          · exact absurd z (Nat.ne_of_lt (Nat.lt_succ_self _))
          · exact absurd (List.mem_singleton.mp z) (Nat.ne_of_gt k5)
        have hval : ∀ (i : Nat) (v : Value), items[i]? = some v → ∃ k t, ns[i]? = some k ∧ v = .int k t := fun i v hv => by
          have hi : i < ns.length := by rw [← zn]; exact (Array.getElem?_eq_some_iff.mp hv).1
          obtain ⟨t, e⟩ := PyProof.Rows.IntsAre.int_at hit i v (by rw [Array.getElem?_toList]; exact hv)
          refine ⟨ns[i], t, List.getElem?_eq_getElem hi, ?_⟩
          rw [e, List.getD_eq_getElem?_getD, List.getElem?_eq_getElem hi]
          rfl
        refine set_update_ints ((Walks.list k6 _ l k8 items).toS) s.heap.objs.size k9 ns zn hb hval (items.size - 0) 0 _ (by omega) (Nat.zero_le _)
          ⟨⟨_, Heap.get?_push_size _ rfl, rfl, rfl⟩, (k4.push _)⟩ ⟨0, Nat.le_refl 0, setR_new_at (Heap.get?_push_of_some _ hS)⟩ ?_
        intro s' c' hm hc' hS'
        obtain ⟨h', gg, dd, tk', oo⟩ := s'
        have eg : gg = s.gens := hm.gens
        have ed : dd = s.drawn := hm.drawn
        have eo : oo = s.os := hm.os
        subst eg ed eo
        show wpAny _ _ _ _ _ _
        refine wpAny_pure ?_
        show wpAny _ _ (ret Value.none) _ _ _
        rw [zn] at hc'
        refine wpAny_pure ⟨rfl, h', tk', c', rfl, hS', hc', fun b o e => ?_⟩
        have hb0 : b < s.heap.objs.size := Heap.lt_size e
        refine hm.heap b o (fun z => ?_) (Heap.get?_push_of_some _ (Heap.get?_push_of_some _ e))
        rcases List.mem_cons.mp z with z | z
        · exact absurd z (Nat.ne_of_lt hb0)
        · exact absurd (List.mem_singleton.mp z) (by rw [k7]; exact Nat.ne_of_lt (Nat.lt_succ_of_lt hb0))
      · cases r₂ with
        | error e => exact hr₂
        | ok fl₂ =>
          cases fl₂ with
          | ret r =>
            obtain ⟨rfl, h', tk, c', rfl, hS', hc', hk'⟩ := hr₂
            repeat (any_goals (first | assumption | wp_step))
            exact h _ _ _ hS' hc' hk'
          | _ => exact hr₂.elim
    | _ => exact hr.elim
end
end DL

end

section
set_option autoImplicit false
set_option autoImplicit false
namespace DL
open PySem PySem.Spec PyProof.Rows L2
section
variable {P : Program} {w : World} {A : Around} {E : Value → Shared → Prop} {s : Shared}
/-- sorted(found), any number of members -/
theorem sorted_set_any {a : Addr} {S : Int → Bool} {n : Nat} {Q : Value → Shared → Prop} (R : SetR w s.heap a S n) (hh : A.handled = none)
    (hQ : ∀ s' p (out : Array Value) (c : Nat) (ns : List Int), (∀ b o, s.heap.get? b = some o → s'.heap.get? b = some o) →
      s'.gens = s.gens → s'.os = s.os → s.heap.objs.size ≤ p → s'.heap.get? p = some (seqObj "list" out c) →
      IntsAre out.toList ns → ns.Pairwise (· < ·) → (∀ k, k ∈ ns ↔ S k = true) → ns.length = n → Q (.ref p) s') :
    wpAny (model P w) A (call (.builtin "sorted") [.ref a]) Q E s := by
  obtain ⟨o, es, ep, t, ho, hex, hd, g, nd, hm, hb, hf, hn, hr, hl⟩ := R
  refine Calls.call_function_entry kind_sorted plain_sorted entry_sorted (args_sorted1 _) ?_
  unfold Builtin.«sorted»
  refine wpAny_bind (m := checkCount "sorted" 1 1 _) (wpAny_pure ?_)
  refine wpAny_bind (collect_set (A := A.in1) hh ⟨o, ho, hex.1, hd⟩ hf hb hr hl fun s1 vs k1 hz g1 o1 pm => ?_)
  have vl : vs.length = n := by
    rw [pm.length_eq, List.length_map, Array.length_toList]
    exact hn
  have hI : IntsAre vs (vs.map Builtin.Re.reRawOf) := ints_of vs fun v hv => by
    obtain ⟨e, he, q⟩ := List.mem_map.mp (pm.mem_iff.mp hv)
    obtain ⟨k, tk, h1, _⟩ := g e he
    rw [← q]
    exact ⟨k, tk, h1⟩
  have pk : (vs.map Builtin.Re.reRawOf).Perm (es.toList.map keyOf) := by
    have := pm.map Builtin.Re.reRawOf
    rwa [List.map_map] at this
  have hfit : vs.length ≤ sizeLine := by
    rw [vl, ← hn]
    exact fits_of_scanBound hb
  refine wpAny_bind (wpAny_newList ?_ hfit)
  have hoL : (s1.heap.push (seqObj "list" vs.toArray 0)).get? s1.heap.objs.size = some (seqObj "list" vs.toArray 0) := Heap.get?_push_size _ rfl
  refine wpAny_bind (wpAny_holding (wpAny_call_entry slot_list_sort ⟨_, hoL, rfl⟩ entry_list_sort
    (SrtO.list_sort_ord SrtO.swo_int hoL hfit (fun h2 => SrtO.ints_sortable hI h2) fun out a1 a2 => ⟨_, rfl, ?_⟩) (args_list_sort _)))
  obtain ⟨b1, b2, b3⟩ := SrtO.ints_out hI a1 a2
  obtain ⟨c, hc⟩ := sortedHeap_at (vs := vs) (out := out.toArray) hoL
  have pn : (out.map SrtO.iv).Perm (es.toList.map keyOf) := b2.trans pk
  refine wpAny_pure ⟨_, rfl, hQ _ s1.heap.objs.size out.toArray c (out.map SrtO.iv) (fun b u e => ?_) g1 o1 hz hc b1
    (lt_of_le_nodup _ b3 (pn.nodup_iff.mpr nd)) (fun k => by rw [pn.mem_iff, ← hm k]) ?_⟩
  · have q := k1 b u e
    have hlt := Heap.lt_size q
    show (sortedHeap (s1.heap.push (seqObj "list" vs.toArray 0)) s1.heap.objs.size vs out.toArray).get? b = some u
    rw [sortedHeap_old (Nat.ne_of_lt hlt) (by rw [size_push']; exact Nat.lt_succ_of_lt hlt)]
    exact Heap.get?_push_of_some _ q
  · rw [pn.length_eq, List.length_map, Array.length_toList]; exact hn
end
/-- the members of a row of ints, ascending, without duplicates -/
def dedupI : List Int → List Int
  | [] => []
  | a :: l => if a ∈ l then dedupI l else a :: dedupI l
theorem mem_dedupI {x : Int} : ∀ {l : List Int}, x ∈ dedupI l ↔ x ∈ l
  | [] => by simp [dedupI]
  | a :: l => by
    unfold dedupI
    split
    · rename_i h
      rw [mem_dedupI (l := l), List.mem_cons]
      constructor
      · intro z; exact .inr z
      · rintro (rfl | z)
        · exact h
        · exact z
    · rw [List.mem_cons, mem_dedupI (l := l), List.mem_cons]
theorem dedupI_nodup : ∀ l : List Int, (dedupI l).Nodup
  | [] => List.nodup_nil
  | a :: l => by
    unfold dedupI
    split
    · exact dedupI_nodup l
    · rename_i h
      rw [List.nodup_cons]
      exact ⟨fun z => h (mem_dedupI.mp z), dedupI_nodup l⟩
def setI (l : List Int) : List Int := sortI (dedupI l)
theorem mem_setI {x : Int} {l : List Int} : x ∈ setI l ↔ x ∈ l := by
  unfold setI
  rw [(sortI_perm _).mem_iff, mem_dedupI]
theorem setI_asc (l : List Int) : (setI l).Pairwise (· < ·) :=
  lt_of_le_nodup _ (sortI_sorted _) ((sortI_perm _).nodup_iff.mpr (dedupI_nodup l))
theorem asc_eq : ∀ {l m : List Int}, l.Pairwise (· < ·) → m.Pairwise (· < ·) → (∀ x, x ∈ l ↔ x ∈ m) → l = m
  | [], [], _, _, _ => rfl
  | [], b :: m, _, _, h => by have := (h b).mpr (List.mem_cons_self ..); cases this
  | a :: l, [], _, _, h => by have := (h a).mp (List.mem_cons_self ..); cases this
  | a :: l, b :: m, h1, h2, h => by
    rw [List.pairwise_cons] at h1 h2
    have e : a = b := by
      rcases List.mem_cons.mp ((h a).mp (List.mem_cons_self ..)) with e | e
      · exact e
      · rcases List.mem_cons.mp ((h b).mpr (List.mem_cons_self ..)) with e2 | e2
        · exact e2.symm
        · have := h2.1 a e; have := h1.1 b e2; omega
    subst e
    congr 1
    refine asc_eq h1.2 h2.2 fun x => ?_
    constructor
    · intro hx
      rcases List.mem_cons.mp ((h x).mp (List.mem_cons_of_mem _ hx)) with e | e
      · subst e; have := h1.1 x hx; omega
      · exact e
    · intro hx
      rcases List.mem_cons.mp ((h x).mpr (List.mem_cons_of_mem _ hx)) with e | e
      · subst e; have := h2.1 x hx; omega
      · exact e
/-! ### sorted(set(xs)), len(set(xs)) -/
def gSetS : D → Option D
  | .lst l => if l.length ≤ 4000 then (ints? l).map fun ns => .lst ((setI ns).map D.int) else none
  | _ => none
def gSetN : D → Option D
  | .lst l => if l.length ≤ 4000 then (ints? l).map fun ns => .int (setI ns).length else none
  | _ => none
theorem fewS {n : Nat} (h : n ≤ 4000) : n + 1 < scanBound := by unfold scanBound; omega
section
variable {X : Cx} {B : Gr} {W : WX} {pos p p2 q : Pos} {a : Expr} {fa : FE}
theorem un_postF {g : D → Option D} {ta : TE} {r : V → Hp → VK → Prop} (a2 : ∀ n E S σ H Hf ρ Q, Rel X.K B E S σ H Hf ρ → PostR X.K W σ H Hf ρ Q (fa n E S) → ta σ H Q)
    (hr : ∀ a x H Hf ρ S Q d, HR X.K H Hf ρ S → Dw X.K H Hf ρ a x → g a = some d →
      (∀ v H' Hf' ρ', HR X.K H' Hf' ρ' S → Tr H Hf ρ H' Hf' ρ' → Dt X.K Hf' ρ' d v → Q v H') → r x H Q)
    (n : Nat) (E : Env) (S : Store) (σ : L2.St) (H Hf : Hp) (ρ : List Addr) (Q : VK) (R : Rel X.K B E S σ H Hf ρ) (p : PostE X.K W σ H Hf ρ Q (fUn g fa n E S)) : ta σ H (fun x H1 => r x H1 Q) := by
  refine a2 n E S σ H Hf ρ _ R ?_
  unfold fUn at p
  cases e1 : fa n E S with
  | stk => rw [e1] at p; exact p
  | exc y S1 => rw [e1] at p; exact p
  | ok d S1 =>
    rw [e1] at p
    intro v H1 Hf1 ρ1 hr1 t1 w1
    have p : PostE X.K W σ H Hf ρ Q (match g d with | some r => .ok r S1 | none => .stk) := p
    cases eg : g d with
    | none => rw [eg] at p; exact p.elim
    | some d2 =>
      rw [eg] at p
      exact hr d v H1 Hf1 ρ1 S1 Q d2 hr1 w1 eg fun v H' Hf' ρ' h1 h2 h3 => p v H' Hf' ρ' h1 (t1.trans h2) h3
theorem ints_of_vals' {ns : List Int} {its : List Value} (r : Vals (ns.map V.int) its) : IntsAre its ns := by
  have := r.ints; simpa using this
def rSetS (K : PySem.W.Frag) (x : V) (H : Hp) (Q : VK) : Prop := ∃ (l : Addr) (ns : List Int), x = .ref l ∧ SqL K H l (ns.map V.int) ∧ ns.length ≤ 4000 ∧ ∀ p, H p = none → Q (.ref p) (upd H p (.lst ((setI ns).map V.int)))
theorem pe_sortedSet {ta : TE} (hc : X.calm = true) (hg : Gl X "sorted") (hm : X.mg "sorted" = none) (hg2 : Gl X "set") (hm2 : X.mg "set" = none) (ha : PE X a ta) (na : starEach [a] X.env = (false, eval a X.env) :: starEach [] X.env) :
    PE X (.Call (.Name "sorted" p) [.Call (.Name "set" p2) [a] [] q] [] pos) (fun σ H Q => ta σ H fun x H1 => rSetS X.K x H1 Q) := by
  refine ⟨fun pins s σ H Q I h => ?_⟩
  refine Call_ (ld_blt I hg hm boot_sorted ?_)
  refine PyProof.Rows.callWith_builtin1 (PyProof.Rows.args_cons ?_ rfl) rfl rfl
  refine Call_ (ld_blt I hg2 hm2 boot_set ?_)
  refine PyProof.Rows.callWith_type1 (PyProof.Rows.args_cons (thn (ha.run pins s σ H _ I h) fun v s1 ⟨x, H1, I1, r1, q1⟩ => PyProof.Rows.args_nil ?_) na) na rfl
  obtain ⟨l, ns, rfl, hq, hl, q1⟩ := q1
  cases r1
  obtain ⟨its, r, pl, hz⟩ := I1.list hq
  refine set_ofList ns (I1.ok.hd hc) pl.isList (by simpa using ints_of_vals' r) (fewS hl) fun h' tk c hS hc' hk => ?_
  refine PyProof.Rows.args_nil ?_
  have I2 : Inv X pins σ H1 { s1 with heap := h', toks := tk } := I1.kept hk
  refine sorted_set_any (s := { s1 with heap := h', toks := tk }) hS (I2.ok.hd hc) fun s' pp out c ms k g o hp hgt hi hs hmm hln => ?_
  have em : ms = setI ns := asc_eq hs (setI_asc ns) fun z => by rw [hmm z, mem_setI]; simp
  subst em
  have hn : H1 pp = none := I2.hok.fresh hp
  have hfit : ((setI ns).map V.int).length ≤ sizeLine := by
    rw [List.length_map, hln]
    exact Nat.le_trans hc' (Nat.le_trans hl (by decide))
  have J : Inv X pins σ (upd H1 pp (.lst ((setI ns).map V.int))) { s1 with heap := s'.heap, gens := s'.gens, drawn := s'.drawn, toks := s'.toks } :=
    Inv.call (s := { s1 with heap := h', toks := tk }) (ch := []) I2 (Un.laid k hp hn) (I2.hok.laid k hp ⟨hfit, out.toList, c, vals_of_ints hi, hgt⟩) (by rw [g]; exact I2.bare) (fun _ z => nomatch z)
  have e : s' = { s1 with heap := s'.heap, gens := s'.gens, drawn := s'.drawn, toks := s'.toks } := by
    cases s'
    cases s1
    cases o
    rfl
  rw [e]
  exact ⟨.ref pp, _, J, rfl, q1 pp hn⟩
theorem q_sortedSet (hc : X.calm = true) (hb : Blt X "sorted") (hb2 : Blt X "set") (ha : QR X B W a fa) (na : starEach [a] X.env = (false, eval a X.env) :: starEach [] X.env) :
    QE X B W (.Call (.Name "sorted" p) [.Call (.Name "set" p2) [a] [] q] [] pos) (fUn gSetS fa) := by
  obtain ⟨ta, a1, a2⟩ := ha
  refine ⟨_, pe_sortedSet hc hb.gl hb.free hb2.gl hb2.free a1 na, un_postF a2 fun d x H Hf ρ S Q r hr w g k => ?_⟩
  unfold gSetS at g
  split at g
  · rename_i l
    split at g
    · rename_i hl
      obtain ⟨ns, hn, rfl⟩ := Option.map_eq_some_iff.mp g
      obtain ⟨z, e, hs⟩ := dw_ints w hn
      refine ⟨z, ns, e, hs, ?_, fun pp hp => new_ans (d := .lst ((setI ns).map D.int)) hr hp (fun Hf' ex hqq => ⟨pp, _, rfl, hqq, Dts.ofInts _⟩) k⟩
      rw [ints?_eq hn, List.length_map] at hl
      exact hl
    · cases g
  · cases g
/-- the number of the members -/
theorem pe_lenSet' {ta : TE} (hc : X.calm = true) (hg : Gl X "len") (hm : X.mg "len" = none) (hg2 : Gl X "set") (hm2 : X.mg "set" = none) (ha : PE X a ta) (na : starEach [a] X.env = (false, eval a X.env) :: starEach [] X.env) :
    PE X (.Call (.Name "len" p) [.Call (.Name "set" p2) [a] [] q] [] pos) (fun σ H Q => ta σ H fun x H1 => ∃ (l : Addr) (ns : List Int), x = .ref l ∧ SqL X.K H1 l (ns.map V.int) ∧ ns.length ≤ 4000 ∧ Q (.int (setI ns).length) H1) := by
  refine ⟨fun pins s σ H Q I h => ?_⟩
  refine Call_ (ld_blt I hg hm boot_len ?_)
  refine PyProof.Rows.callWith_builtin1 (PyProof.Rows.args_cons ?_ rfl) rfl rfl
  refine Call_ (ld_blt I hg2 hm2 boot_set ?_)
  refine PyProof.Rows.callWith_type1 (PyProof.Rows.args_cons (thn (ha.run pins s σ H _ I h) fun v s1 ⟨x, H1, I1, r1, q1⟩ => PyProof.Rows.args_nil ?_) na) na rfl
  obtain ⟨l, ns, rfl, hq, hl, q1⟩ := q1
  cases r1
  obtain ⟨its, r, pl, hz⟩ := I1.list hq
  refine set_ofList ns (I1.ok.hd hc) pl.isList (by simpa using ints_of_vals' r) (fewS hl) fun h' tk c hS hc' hk => ?_
  refine PyProof.Rows.args_nil ?_
  have I2 : Inv X pins σ H1 { s1 with heap := h', toks := tk } := I1.kept hk
  obtain ⟨o, es, ep, t, ho, hex, hd, g, nd, hmm, hb, hf, hn, hr, hll⟩ := hS
  have en : c = (setI ns).length := by
    have pp : (es.toList.map keyOf).Perm (setI ns) := (List.perm_ext_iff_of_nodup nd ((setI_asc ns).imp fun h => by omega)).mpr fun z => by
      rw [← hmm z, mem_setI]; simp
    have := pp.length_eq
    rw [List.length_map, Array.length_toList, hn] at this
    exact this
  refine call_len_set ho hex hd hf (by rw [hn]; have := fewS hl; unfold scanBound at *; omega) ⟨.int (setI ns).length, H1, I2.tok _, ⟨_, by rw [hn, en]⟩, q1⟩
end
end DL

end

section
set_option autoImplicit false
set_option autoImplicit false
namespace DL
open PySem PySem.Spec PyProof.Rows L2
section
variable {X : Cx} {B : Gr} {W : WX} {pos p p2 q : Pos} {a : Expr} {fa : FE}
theorem q_lenSet (hc : X.calm = true) (hb : Blt X "len") (hb2 : Blt X "set") (ha : QR X B W a fa) (na : starEach [a] X.env = (false, eval a X.env) :: starEach [] X.env) :
    QE X B W (.Call (.Name "len" p) [.Call (.Name "set" p2) [a] [] q] [] pos) (fUn gSetN fa) := by
  obtain ⟨ta, a1, a2⟩ := ha
  refine ⟨_, pe_lenSet' hc hb.gl hb.free hb2.gl hb2.free a1 na, un_postF a2 fun d x H Hf ρ S Q r hr w g k => ?_⟩
  unfold gSetN at g
  split at g
  · rename_i l
    split at g
    · rename_i hl
      obtain ⟨ns, hn, rfl⟩ := Option.map_eq_some_iff.mp g
      obtain ⟨z, e, hs⟩ := dw_ints w hn
      refine ⟨z, ns, e, hs, ?_, k _ _ _ _ hr (Tr.refl _ _ _) rfl⟩
      rw [ints?_eq hn, List.length_map] at hl
      exact hl
    · cases g
  · cases g
end
/-! ### sorted(d) -/
def keysI? : List (Key × D) → Option (List Int)
  | [] => some []
  | (.inl i, _) :: l => (keysI? l).map (i :: ·)
  | _ :: _ => none
theorem keysI?_eq : ∀ {l : List (Key × D)} {ns : List Int}, keysI? l = some ns → l.map (·.1) = ns.map Sum.inl
  | [], ns, h => by cases h; rfl
  | (.inl i, d) :: l, ns, h => by
    simp only [keysI?, Option.map_eq_some_iff] at h
    obtain ⟨m, h1, rfl⟩ := h
    simp [keysI?_eq h1]
  | (.inr i, d) :: l, ns, h => by cases h
section
variable {X : Cx}
/-- sorted(d) of a dict, all keys ints, any number of them -/
theorem call_sortedDX (hcalm : X.calm = true) : CallR X (.builtin "sorted") (fun xs H Q => ∃ (a : Addr) (kvs : List (Key × V)) (ks : List Int), xs = [.ref a] ∧ Rd H a (.dK kvs) ∧
    kvs.map (·.1) = ks.map Sum.inl ∧ ∀ (ys : List Int) (p : Addr), ys.Perm ks → ys.Pairwise (· ≤ ·) → H p = none → Q (.ref p) (upd H p (.lst (ys.map V.int)))) := by
  intro pins s σ H xs us Q I r q
  obtain ⟨a, kvs, ks, ex, hd, hks, q⟩ := q
  subst ex
  obtain ⟨u, eu, rx⟩ := vals1 r
  subst eu
  cases rx
  obtain ⟨z, lo, vs, rel, dd⟩ := dk_rd I.hok hd
  obtain ⟨ep, hat⟩ := dd.dictAt
  have hkeys : vs.map (·.1) = ks.map Sum.inl := rel.keys.symm.trans hks
  have hl : vs.length = ks.length := by
    have := congrArg List.length hkeys
    rwa [List.length_map, List.length_map] at this
  have hlv : kvs.length = vs.length := rel.length
  have h16 : vs.length ≤ sizeLine := by rw [← hlv]; exact z
  refine Calls.call_function_entry kind_sorted plain_sorted entry_sorted (args_sorted1 _) ?_
  unfold Builtin.«sorted»
  refine wpAny_bind (m := checkCount "sorted" 1 1 _) (wpAny_pure ?_)
  refine wpAny_bind (PySem.W.kdu_collect (A := X.A.in1) (PySem.W.kdl_dict (knd := mixKind X.prog X.w) (kvs := vs) (ep := ep) lo)
    (I.ok.hd hcalm) hat h16 fun h' tk acc hk hacc => ?_)
  have hal : acc.toList.length = ks.length := by rw [Array.length_toList, hacc.1, hl]
  have hS : IntsAre acc.toList ks := ints_each hal fun j v e => by
    obtain ⟨k, x, e1, e2⟩ := hacc.2 j v (by rw [← Array.getElem?_toList]; exact e)
    have e3 : (vs.map (·.1))[j]? = some k := by rw [List.getElem?_map, e1]; rfl
    rw [hkeys, List.getElem?_map] at e3
    cases e4 : ks[j]? with
    | none => rw [e4] at e3; cases e3
    | some y =>
      rw [e4] at e3
      have e5 : Sum.inl y = k := Option.some.inj e3
      subst e5
      rcases keyIs_shape (show keyIs (Sum.inl y) v = true from e2) with ⟨i, t, ek, ev⟩ | ⟨z, t, ek, ev⟩
      · cases ek
        exact ⟨y, t, rfl, ev⟩
      · cases ek
  have I1 : Inv X pins σ H { s with heap := h', toks := tk } := I.kept hk
  have hfit : acc.toList.length ≤ sizeLine := by rw [hal, ← hl]; exact h16
  refine wpAny_bind (wpAny_newList ?_ hfit)
  have hoL : (h'.push (seqObj "list" acc.toList.toArray 0)).get? h'.objs.size = some (seqObj "list" acc.toList.toArray 0) := Heap.get?_push_size _ rfl
  show wpAny _ _ _ _ _ { s with heap := h'.push (seqObj "list" acc.toList.toArray 0), toks := tk }
  refine wpAny_bind (wpAny_holding (wpAny_call_entry slot_list_sort ⟨_, hoL, rfl⟩ entry_list_sort
    (SrtO.list_sort_ord (s := { s with heap := h'.push (seqObj "list" acc.toList.toArray 0), toks := tk }) SrtO.swo_int hoL hfit (fun h2 => SrtO.ints_sortable hS h2) fun out a1 a2 => ⟨_, rfl, ?_⟩) (args_list_sort _)))
  obtain ⟨b1, b2, b3⟩ := SrtO.ints_out hS a1 a2
  obtain ⟨e', he'⟩ := sortedHeap_at (vs := acc.toList) (out := out.toArray) hoL
  have hlen : ((out.map SrtO.iv).map V.int).length ≤ sizeLine := by
    rw [List.length_map, b2.length_eq, ← hal]
    exact hfit
  refine wpAny_pure ⟨_, rfl, .ref h'.objs.size, upd H h'.objs.size (.lst ((out.map SrtO.iv).map V.int)), I1.laid (t' := tk) (fun b u e => ?_) (Nat.le_refl _)
    (show ObjOk X.prog X.w _ _ _ (.lst ((out.map SrtO.iv).map V.int)) from ⟨hlen, out, e', vals_of_ints b1, he'⟩), rfl, q _ _ b2 b3 (I1.hok.fresh (Nat.le_refl _))⟩
  have hb : b < h'.objs.size := Heap.lt_size e
  rw [sortedHeap_old (Nat.ne_of_lt hb) (by rw [size_push']; exact Nat.lt_succ_of_lt hb)]
  exact Heap.get?_push_of_some _ e
def gSortedD : List D → Option D
  | [.dct l] => (keysI? l).map fun ns => .lst ((sortI ns).map D.int)
  | _ => none
theorem cq_sortedD (hc : X.calm = true) : CallQ X (.builtin "sorted") gSortedD := by
  refine ⟨_, call_sortedDX hc, fun ds vs H Hf ρ S Q d hr w g k => ?_⟩
  unfold gSortedD at g
  split at g
  · rename_i l
    obtain ⟨ns, hn, rfl⟩ := Option.map_eq_some_iff.mp g
    obtain ⟨x, rfl, w1⟩ := dws1 w
    obtain ⟨a, us, e, _, h1, h2⟩ := (show ∃ a vs, x = .ref a ∧ a ∉ ρ ∧ Rd H a (.dK vs) ∧ Dks X.K Hf ρ l vs from w1)
    subst e
    refine ⟨a, us, ns, rfl, h1, by rw [h2.keys, keysI?_eq hn], fun ys pp hp hs hq => ?_⟩
    rw [sortI_eq hp hs]
    exact new_ans (d := .lst ((sortI ns).map D.int)) hr hq (fun Hf' ex hqq => ⟨pp, _, rfl, hqq, Dts.ofInts _⟩) k
  · cases g
def gLenD : List D → Option D
  | [.dct l] => some (.int l.length)
  | _ => none
theorem call_lenDR : CallR X (.builtin "len") (fun xs H Q => ∃ a kvs, xs = [V.ref a] ∧ Rd H a (.dK kvs) ∧ Q (.int kvs.length) H) := by
  intro pins s σ H xs us Q I r h
  obtain ⟨a, kvs, rfl, ha, q⟩ := h
  obtain ⟨u, rfl, ru⟩ := vals1 r
  cases ru
  exact d_len I ha fun t s' I' => ⟨.int kvs.length, H, I', ⟨t, rfl⟩, q⟩
theorem cq_lenD : CallQ X (.builtin "len") gLenD := by
  refine ⟨_, call_lenDR, fun ds vs H Hf ρ S Q d hr w g k => ?_⟩
  unfold gLenD at g
  split at g
  · rename_i l
    cases g
    obtain ⟨x, rfl, w1⟩ := dws1 w
    obtain ⟨a, us, e, _, h1, h2⟩ := (show ∃ a vs, x = .ref a ∧ a ∉ ρ ∧ Rd H a (.dK vs) ∧ Dks X.K Hf ρ l vs from w1)
    subst e
    refine ⟨a, us, rfl, h1, ?_⟩
    rw [← h2.len]
    exact k _ _ _ _ hr (Tr.refl _ _ _) rfl
  · cases g
end
end DL

end

section
set_option autoImplicit false
set_option autoImplicit false
namespace DL
open PySem PySem.Spec PyProof.Rows L2
theorem Wd.hu1 {X : Cx} {P : Program} {w : World} {K : PySem.W.Frag} {mg : Str → Option Value} {base : Heap} {k : Nat} (h : Wd X P w K mg base k) : X.A.units + 1 < cLine := by
  have := h.hu; omega
/-! ### xs.index(e), xs.count(e) -/
def idxF (x : D) : List D → Nat → Option Nat
  | [], _ => none
  | y :: l, i => if eqF y x = true then some i else idxF x l (i + 1)
theorem idxF_spec {x : D} : ∀ {l : List D} {i j : Nat}, idxF x l i = some j → i ≤ j ∧ (∃ y, l[j - i]? = some y ∧ eqF y x = true) ∧ ∀ m y, m < j - i → l[m]? = some y → eqF y x = false
  | [], i, j, h => by cases h
  | y :: l, i, j, h => by
    unfold idxF at h
    by_cases c : eqF y x = true
    · rw [if_pos c] at h
      cases h
      refine ⟨Nat.le_refl _, ⟨y, by simp, c⟩, fun m z hm => by omega⟩
    · rw [if_neg c] at h
      obtain ⟨h1, ⟨z, h2, h3⟩, h4⟩ := idxF_spec h
      refine ⟨by omega, ⟨z, ?_, h3⟩, fun m u hm hu => ?_⟩
      · have : j - i = (j - (i + 1)) + 1 := by omega
        rw [this, List.getElem?_cons_succ]; exact h2
      · cases m with
        | zero => simp at hu; subst hu; simpa using c
        | succ m => exact h4 m u (by omega) (by simpa using hu)
def gIndex : D → D → Option D
  | .lst l, x => if (flatD x && l.all flatD) = true then (idxF x l 0).map fun j => .int (j : Nat) else none
  | _, _ => none
def fIndex (fo fe : FE) : FE := fun n E S => (fo n E S).bind fun d S1 => match d with
  | .lst l => (fe n E S1).bind fun b S2 => match gIndex (.lst l) b with
    | some d => .ok d S2
    | none => .stk
  | _ => .stk
section
variable {X : Cx} {B : Gr} {W : WX} {o e : Expr} {fo fe : FE} {apos cpos : Pos}
theorem q_index (ho : QR X B W o fo) (he : QE X B W e fe) (hbase : attributeBase o "index" X.env (eval o X.env) = eval o X.env)
    (hfew : ((backTo cpos (starEach [e] X.env)).all (fun x => !x.1) && (backToKw cpos (keywordEach [] X.env)).all (fun x => x.1.isSome)
      && decide (([e] : List Expr).length + ([] : List Keyword).length + (if ([] : List Keyword).isEmpty then 0 else 1) < 30)) = true)
    (hline : (apos.endLine == cpos.line) = true) (hs : starEach [e] X.env = (false, eval e X.env) :: starEach [] X.env) (hplain : (backTo cpos (starEach [] X.env)).any (·.1) = false) :
    QE X B W (.Call (.Attribute o "index" apos) [e] [] cpos) (fIndex fo fe) := by
  obtain ⟨to, a1, a2⟩ := ho
  obtain ⟨te, b1, b2⟩ := he
  refine ⟨_, pe_bm PySem.F.plainAttrs_list PySem.F.slot_list_index PySem.F.type_list_index mt_index a1 (pa_cons b1 pa_nil hs) hbase hfew hline hs hplain, fun n E S σ H Hf ρ Q r p => a2 n E S σ H Hf ρ _ r ?_⟩
  unfold fIndex at p
  cases e1 : fo n E S with
  | stk => rw [e1] at p; exact p
  | exc y S1 => rw [e1] at p; exact p
  | ok d S1 =>
    rw [e1] at p
    intro v H1 Hf1 ρ1 hr1 t1 w1
    have r1 := r.step hr1 t1
    cases d with
    | lst l =>
      have p1 : PostE X.K W σ H Hf ρ Q ((fe n E S1).bind fun b S2 => match gIndex (.lst l) b with | some d => .ok d S2 | none => .stk) := p
      clear p
      obtain ⟨a, vs, rfl, g1, g2, g3⟩ := id w1
      refine ⟨.inl ⟨rfl, vs, SqL.of g2⟩, b2 n E S1 σ H1 Hf1 ρ1 _ r1 ?_⟩
      cases e2 : fe n E S1 with
      | stk => rw [e2] at p1; exact p1
      | exc y S2 => rw [e2] at p1; exact PostX.tr t1 p1
      | ok dk S2 =>
        rw [e2] at p1
        intro y H2 Hf2 ρ2 hr2 t2 w2
        have p2 : PostE X.K W σ H Hf ρ Q (match gIndex (.lst l) dk with | some d => .ok d S2 | none => .stk) := p1
        clear p1
        obtain ⟨a', vs', e', k1, k2, k3⟩ := Dw.mono t2 hr1 w1
        cases e'
        unfold gIndex at p2
        dsimp only at p2
        by_cases hc : (flatD dk && l.all flatD) = true
        · rw [if_pos hc] at p2
          rw [Bool.and_eq_true] at hc
          cases hj : idxF dk l 0 with
          | none => rw [hj] at p2; exact p2.elim
          | some j =>
            rw [hj] at p2
            obtain ⟨_, ⟨z, h2, h3⟩, h4⟩ := idxF_spec hj
            simp only [Nat.sub_zero] at h2 h4
            obtain ⟨zv, z1, z2⟩ := k3.get h2
            have fz : flatD z = true := (List.all_eq_true.mp hc.2) z (List.mem_of_getElem? h2)
            refine ⟨a, vs', y, j, zv, rfl, rfl, SqL.of k2, flat_v w2 hc.1, ?_, z1, by rw [eqF_v z2 w2 fz hc.1]; exact h3, fun m z' hm hz => ?_, ?_⟩
            · exact (inF_v (l := l) (vs := vs') w2 hc.1 k3 hc.2).2
            · obtain ⟨dz, y1, y2⟩ := k3.get' hz
              have fz : flatD dz = true := (List.all_eq_true.mp hc.2) dz (List.mem_of_getElem? y1)
              rw [eqF_v y2 w2 fz hc.1]
              exact h4 m dz hm y1
            · exact p2 _ H2 Hf2 ρ2 hr2 (t1.trans t2) rfl
        · rw [if_neg hc] at p2; exact p2.elim
    | _ => exact p.elim
end
end DL

end

section
set_option autoImplicit false
set_option autoImplicit false
namespace DL
open PySem PySem.Spec PyProof.Rows L2
/-! ### xs.count(n), xs[::-1] -/
def gCount : D → D → Option D
  | .lst l, .int k => (ints? l).map fun ns => .int (ns.count k : Nat)
  | _, _ => none
def fCount (fo fe : FE) : FE := fun n E S => (fo n E S).bind fun d S1 => match d with
  | .lst l => (fe n E S1).bind fun b S2 => match gCount (.lst l) b with
    | some d => .ok d S2
    | none => .stk
  | _ => .stk
def gRevL : D → Option D
  | .lst l => some (.lst l.reverse)
  | _ => none
section
variable {X : Cx} {B : Gr} {W : WX} {o e : Expr} {fo fe : FE} {apos cpos : Pos}
theorem q_count (ho : QR X B W o fo) (he : QE X B W e fe) (hbase : attributeBase o "count" X.env (eval o X.env) = eval o X.env)
    (hfew : ((backTo cpos (starEach [e] X.env)).all (fun x => !x.1) && (backToKw cpos (keywordEach [] X.env)).all (fun x => x.1.isSome)
      && decide (([e] : List Expr).length + ([] : List Keyword).length + (if ([] : List Keyword).isEmpty then 0 else 1) < 30)) = true)
    (hline : (apos.endLine == cpos.line) = true) (hs : starEach [e] X.env = (false, eval e X.env) :: starEach [] X.env) (hplain : (backTo cpos (starEach [] X.env)).any (·.1) = false) :
    QE X B W (.Call (.Attribute o "count" apos) [e] [] cpos) (fCount fo fe) := by
  obtain ⟨to, a1, a2⟩ := ho
  obtain ⟨te, b1, b2⟩ := he
  refine ⟨_, pe_bm PySem.F.plainAttrs_list PySem.F.slot_list_count PySem.F.type_list_count mt_lcount a1 (pa_cons b1 pa_nil hs) hbase hfew hline hs hplain, fun n E S σ H Hf ρ Q r p => a2 n E S σ H Hf ρ _ r ?_⟩
  unfold fCount at p
  cases e1 : fo n E S with
  | stk => rw [e1] at p; exact p
  | exc y S1 => rw [e1] at p; exact p
  | ok d S1 =>
    rw [e1] at p
    intro v H1 Hf1 ρ1 hr1 t1 w1
    have r1 := r.step hr1 t1
    cases d with
    | lst l =>
      have p1 : PostE X.K W σ H Hf ρ Q ((fe n E S1).bind fun b S2 => match gCount (.lst l) b with | some d => .ok d S2 | none => .stk) := p
      clear p
      obtain ⟨a, vs, rfl, g1, g2, g3⟩ := id w1
      refine ⟨.inl ⟨rfl, vs, SqL.of g2⟩, b2 n E S1 σ H1 Hf1 ρ1 _ r1 ?_⟩
      cases e2 : fe n E S1 with
      | stk => rw [e2] at p1; exact p1
      | exc y S2 => rw [e2] at p1; exact PostX.tr t1 p1
      | ok dk S2 =>
        rw [e2] at p1
        intro y H2 Hf2 ρ2 hr2 t2 w2
        have p2 : PostE X.K W σ H Hf ρ Q (match gCount (.lst l) dk with | some d => .ok d S2 | none => .stk) := p1
        clear p1
        have w3 := Dw.mono t2 hr1 w1
        unfold gCount at p2
        split at p2
        · rename_i d0 eg
          split at eg
          · rename_i l' k el
            cases el
            obtain ⟨ns, hn, rfl⟩ := Option.map_eq_some_iff.mp eg
            obtain ⟨z, ez, hs2⟩ := dw_ints w3 hn
            cases ez
            exact ⟨a, ns, k, rfl, by rw [show y = .int k from w2], hs2, p2 _ H2 Hf2 ρ2 hr2 (t1.trans t2) rfl⟩
          · cases eg
        · exact p2.elim
    | _ => exact p.elim
theorem q_revL {k : Nat} {p1 p2 p3 pos : Pos} (he : QR X B W e fe) : QE X B W (.Subscript e (.Slice none none (some (.UnaryOp .USub (.Constant (.int 1) k p1) p2)) p3) pos) (fUn gRevL fe) := by
  obtain ⟨ta, a1, a2⟩ := he
  refine ⟨_, pe_revL a1, fun n E S σ H Hf ρ Q R p => un_postF (r := fun x H Q => ∃ a xs, x = .ref a ∧ SqL X.K H a xs ∧ ∀ p, H p = none → Q (.ref p) (upd H p (.lst xs.reverse))) a2 (fun d x H Hf ρ S Q r hr w g kk => ?_) n E S σ H Hf ρ Q R p⟩
  unfold gRevL at g
  split at g
  · rename_i l
    cases g
    obtain ⟨a, vs, rfl, _, g2, g3⟩ := w
    exact ⟨a, vs, rfl, SqL.of g2, fun pp hp => new_ans (d := .lst l.reverse) hr hp (fun Hf' ex hqq => ⟨pp, _, rfl, hqq, (Dts.mono ex (Pre.refl _) _ _ g3).reverse⟩) kk⟩
  · cases g
end
end DL

end

section
set_option autoImplicit false
set_option autoImplicit false
namespace DL
open PySem PySem.Spec PyProof.Rows L2
/-! ### a dict that is locked from now on: loops over its items, its keys -/
def lockE (E : Env) (i : Nat) : Env := match E[i]? with
  | some (some (.own (.dct l))) => E.set i (some (.fz (.dct l)))
  | _ => E
def fLockD (i : Nat) (f : FS) : FS := fun n E S => f n (lockE E i) S
theorem Rel.lock {K : PySem.W.Frag} {B : Gr} {E : Env} {S : Store} {σ : L2.St} {H Hf : Hp} {ρ : List Addr} {l : List (Key × D)} (r : Rel K B E S σ H Hf ρ) {i : Nat} (e : E[i]? = some (some (.own (.dct l)))) :
    ∃ a u, H a = some u ∧ Mut (some u) ∧ ∀ od, ∃ Hf', Ext Hf Hf' ∧ Rel K B (E.set i (some (.fz (.dct l)))) S σ (upd H a (.frz od u)) Hf' ρ := by
  obtain ⟨a, h1, h2, h3, h4, vs, h5, h6⟩ := r.sl i _ e
  refine ⟨a, _, h5, True.intro, fun od => ?_⟩
  have ex : Ext Hf (upd Hf a (.frz od (.dK vs))) := fun b z e => by
    have : b ≠ a := fun q => by subst q; rw [h3] at e; cases e
    rw [upd_ne this]; exact e
  refine ⟨_, ex, (r.hr.own (o := .frz od (.dK vs)) h3 h4).freeze h3 upd_same h4, ⟨r.tr.hf.trans ex, r.tr.pre, fun b u hb hbn => ?_, fun b hb => ?_, r.tr.newh, fun b hb => ?_⟩, by simp [r.len], fun j s ej => ?_, fun j k b d1 d2 e1 e2 e3 e4 => ?_⟩
  · have : b ≠ a := fun z => by subst z; rw [h2] at hb; cases hb
    rw [upd_ne this]; exact r.tr.keep b u hb hbn
  · by_cases z : b = a
    · subst z; exact .inr h2
    · rw [upd_ne z] at hb; exact r.tr.fresh b hb
  · by_cases z : b = a
    · subst z; rw [upd_same]; simp
    · rw [upd_ne z]; exact r.tr.alive b hb
  · rcases get_set_own ej with ⟨rfl, ej, hl⟩ | ⟨hj, ej⟩
    · cases ej
      exact ⟨.ref a, h1, a, od, vs, rfl, upd_same, Dks.mono ex (Pre.refl _) _ _ h6⟩
    · have q := r.sl j s ej
      cases s with
      | fz d =>
        obtain ⟨u, q1, q2⟩ := q
        exact ⟨u, q1, q2.mono ex (Pre.refl _)⟩
      | own d2 =>
        obtain ⟨b, q1, q2, q3, q4, q5⟩ := q
        have ne : b ≠ a := fun z => hj (by subst z; exact r.dis i j _ _ d2 e ej h1 q1)
        refine ⟨b, q1, q2, by rw [upd_ne ne]; exact q3, q4, ?_⟩
        cases d2 with
        | lst l => obtain ⟨vs, k1, k2⟩ := q5; exact ⟨vs, by rw [upd_ne ne]; exact k1, Dts.mono ex (Pre.refl _) _ _ k2⟩
        | dct l => obtain ⟨vs, k1, k2⟩ := q5; exact ⟨vs, by rw [upd_ne ne]; exact k1, Dks.mono ex (Pre.refl _) _ _ k2⟩
        | _ => exact q5.elim
  · rcases get_set_own e1 with ⟨rfl, x1, hl⟩ | ⟨hj, e1⟩
    · cases x1
    · rcases get_set_own e2 with ⟨rfl, x2, hl2⟩ | ⟨hk, e2⟩
      · cases x2
      · exact r.dis j k b d1 d2 e1 e2 e3 e4
theorem pss_lockP {X : Cx} {sts : List Stmt} {t : TS} (h : PSs X sts t) : PSs X sts (fun D σ H => t D σ H ∨ ∃ d u, H d = some u ∧ Mut (some u) ∧ ∀ od, t D σ (upd H d (.frz od u))) := by
  refine ⟨fun pins s σ H D I hw => ?_⟩
  rcases hw with q | ⟨d, u, hd, mu, q⟩
  · exact h.run pins s σ H D I q
  · obtain ⟨od, I1⟩ := I.lock hd mu
    exact h.run pins s σ _ D I1 (q od)
section
variable {X : Cx} {B : Gr} {W : WX} {sts : List Stmt} {f : FS} {e tg : Expr} {fe : FE} {apos cpos tpos : Pos}
theorem ss_lockD (h : QSs X B W sts f) (i : Nat) : QSs X B W sts (fLockD i f) := by
  obtain ⟨t, a1, a2⟩ := h
  refine ⟨_, pss_lockP a1, fun n E S σ H Hf ρ Q r p => ?_⟩
  unfold fLockD lockE at p
  split at p
  · rename_i l el
    obtain ⟨a, u, h1, h2, h3⟩ := r.lock el
    refine .inr ⟨a, u, h1, h2, fun od => ?_⟩
    obtain ⟨Hf', ex, r'⟩ := h3 od
    exact a2 n _ S σ _ Hf' ρ Q r' (PostS.mono ex (Pre.refl _) p)
  · exact .inl (a2 n E S σ H Hf ρ Q r p)
/-- a key as data -/
def kD : Key → D
  | .inl i => .int i
  | .inr s => .str s
def itD (q : Key × D) : D := .tup [kD q.1, q.2]
theorem kD_v {K : PySem.W.Frag} {Hf : Hp} {ρ : List Addr} (k : Key) : Dt K Hf ρ (kD k) (kV k) := by
  cases k <;> rfl
theorem Dks.get {K : PySem.W.Frag} {Hf : Hp} {ρ : List Addr} : ∀ {l : List (Key × D)} {vs : List (Key × V)} {i : Nat} {q : Key × D}, Dks K Hf ρ l vs → l[i]? = some q → ∃ v, vs[i]? = some (q.1, v) ∧ Dt K Hf ρ q.2 v
  | [], vs, i, q, h, e => by simp at e
  | (k, d) :: l, vs, i, q, h, e => by
    simp only [Dks] at h
    obtain ⟨v, r, rfl, h1, h2⟩ := h
    cases i with
    | zero => simp only [List.getElem?_cons_zero, Option.some.injEq] at e; subst e; exact ⟨v, rfl, h1⟩
    | succ i => simp only [List.getElem?_cons_succ] at e ⊢; exact Dks.get h2 e
def fItems (fe : FE) : FA := fun n E S => (fe n E S).bind fun d S1 => match d with
  | .dct l => .ok (l.map itD) S1
  | _ => .stk
def fKeys (fe : FE) : FA := fun n E S => (fe n E S).bind fun d S1 => match d with
  | .dct l => .ok (l.map fun q => kD q.1) S1
  | _ => .stk
theorem i_items {elts : List Expr} {kk : Nat} (he : QE X B W e fe) (hbase : attributeBase e "items" X.env (eval e X.env) = eval e X.env) (hline : (apos.endLine == cpos.line) = true) :
    QI X B W (.Tuple elts kk tpos) (.Call (.Attribute e "items" apos) [] [] cpos) (fItems fe) := by
  obtain ⟨t, a1, a2⟩ := he
  refine ⟨_, pi_items a1 hbase hline, fun n E S σ H Hf ρ R r p => a2 n E S σ H Hf ρ _ r ?_⟩
  unfold fItems at p
  cases e1 : fe n E S with
  | stk => rw [e1] at p; exact p
  | exc y S1 => rw [e1] at p; exact p
  | ok d S1 =>
    rw [e1] at p
    cases d <;> try exact p.elim
    rename_i l
    intro v H' Hf' ρ' h1 h2 w
    obtain ⟨a, o, vs, rfl, w1, w2⟩ := (show ∃ a o kvs, v = .ref a ∧ Hf' a = some (.frz o (.dK kvs)) ∧ Dks X.K Hf' ρ' l kvs from w)
    refine ⟨a, o, vs, rfl, h1.sub _ _ w1, p _ H' Hf' ρ' h1 h2 ?_⟩
    intro H1 Hf1 ρ1 S2 hr ex pr i
    have g1 : H1 a = some (.frz o (.dK vs)) := hr.sub _ _ (ex _ _ w1)
    refine ⟨fun d e => ?_, fun hl => ⟨g1, by rw [← w2.len]; simpa using hl⟩⟩
    rw [List.getElem?_map, Option.map_eq_some_iff] at e
    obtain ⟨q, eq, rfl⟩ := e
    obtain ⟨vd, y1, y2⟩ := w2.get eq
    refine ⟨⟨g1, (List.getElem?_eq_some_iff.mp y1).1⟩, fun x H2 y => ?_⟩
    obtain ⟨T, k, v, z1, rfl, hT, rfl⟩ := y
    rw [y1] at z1; cases z1
    exact pair_new hr hT (kD_v _) (y2.mono ex pr)
theorem i_keys (he : QE X B W e fe) : QI X B W tg e (fKeys fe) := by
  obtain ⟨t, a1, a2⟩ := he
  refine ⟨_, pi_keys a1, fun n E S σ H Hf ρ R r p => a2 n E S σ H Hf ρ _ r ?_⟩
  unfold fKeys at p
  cases e1 : fe n E S with
  | stk => rw [e1] at p; exact p
  | exc y S1 => rw [e1] at p; exact p
  | ok d S1 =>
    rw [e1] at p
    cases d <;> try exact p.elim
    rename_i l
    intro v H' Hf' ρ' h1 h2 w
    obtain ⟨a, o, vs, rfl, w1, w2⟩ := (show ∃ a o kvs, v = .ref a ∧ Hf' a = some (.frz o (.dK kvs)) ∧ Dks X.K Hf' ρ' l kvs from w)
    refine ⟨a, o, rfl, .inl ⟨vs, h1.sub _ _ w1, p _ H' Hf' ρ' h1 h2 ?_⟩⟩
    intro H1 Hf1 ρ1 S2 hr ex pr i
    have g1 : H1 a = some (.frz o (.dK vs)) := hr.sub _ _ (ex _ _ w1)
    refine ⟨fun d e => ?_, fun hl => ⟨g1, by rw [← w2.len]; simpa using hl⟩⟩
    rw [List.getElem?_map, Option.map_eq_some_iff] at e
    obtain ⟨q, eq, rfl⟩ := e
    obtain ⟨vd, y1, y2⟩ := w2.get eq
    refine ⟨⟨g1, (List.getElem?_eq_some_iff.mp y1).1⟩, fun x H2 y => ?_⟩
    obtain ⟨rfl, k, v, z1, rfl⟩ := y
    rw [y1] at z1; cases z1
    exact ⟨Hf1, hr, Tr.refl _ _ _, kD_v _⟩
end
end DL

end

section
set_option autoImplicit false
set_option autoImplicit false
namespace DL
open PySem PySem.Spec PyProof.Rows L2
/-! ### {k: v} -/
def fDict1 (fk fv : FE) : FE := fun n E S => (fk n E S).bind fun dk S1 => (fv n E S1).bind fun d S2 => match keyD dk with
  | some k => .ok (.dct [(k, d)]) S2
  | none => .stk
section
variable {X : Cx} {B : Gr} {W : WX} {k v : Expr} {fk fv : FE} {pos : Pos}
theorem f_dict1 (hk : QE X B W k fk) (hv : QE X B W v fv) : QF X B W (.Dict [some k] [v] pos) (fDict1 fk fv) := by
  obtain ⟨tk, a1, a2⟩ := hk
  obtain ⟨tv, b1, b2⟩ := hv
  refine ⟨_, pe_disp (pps_cons a1 b1 pps_nil) rfl rfl (by simp) (by simp), fun n E S σ H Hf ρ Q r p => ?_⟩
  intro q hq
  have r1 := r.step (r.hr.own (o := .dK []) (r.hr.hnone hq) (r.hr.notin hq)) (Tr.own hq)
  refine a2 n E S σ _ Hf ρ _ r1 ?_
  unfold fDict1 at p
  cases e1 : fk n E S with
  | stk => rw [e1] at p; exact p
  | exc y S1 => rw [e1] at p; exact PostX.tr (Tr.own hq) p
  | ok dk S1 =>
    rw [e1] at p
    have p1 : PostF X.K W σ H Hf ρ Q ((fv n E S1).bind fun d S2 => match keyD dk with | some k => .ok (.dct [(k, d)]) S2 | none => .stk) := p
    intro x H1 Hf1 ρ1 hr1 t1 w1
    refine b2 n E S1 σ H1 Hf1 ρ1 _ (r1.step hr1 t1) ?_
    cases e2 : fv n E S1 with
    | stk => rw [e2] at p1; exact p1
    | exc y S2 => rw [e2] at p1; exact PostX.tr ((Tr.own hq).trans t1) p1
    | ok d S2 =>
      rw [e2] at p1
      have p2 : PostF X.K W σ H Hf ρ Q (match keyD dk with | some k => .ok (.dct [(k, d)]) S2 | none => .stk) := p1
      intro y H2 Hf2 ρ2 hr2 t2 w2
      cases ek : keyD dk with
      | none => rw [ek] at p2; exact p2.elim
      | some kk =>
        rw [ek] at p2
        have nq : q ∉ ρ := r.hr.notin hq
        have t12 := t1.trans t2
        have hq2 : H2 q = some (.dK []) := t12.keep _ _ upd_same nq
        have fq : Hf2 q = none := by
          cases z : Hf2 q with
          | none => rfl
          | some o =>
            rcases t12.fresh q (by rw [z]; simp) with c | c
            · exact absurd (r.hr.hnone hq) c
            · rw [upd_same] at c; cases c
        have rq : q ∉ ρ2 := fun z => by
          rcases t12.newh q z with c | c
          · exact nq c
          · rw [upd_same] at c; cases c
        refine ⟨hq2, [(kk, y)], ?_, by simp, ?_⟩
        · rw [keyD_v ek (w1.dw hr1)]; rfl
        · have tA := (Tr.own (Hf := Hf) (ρ := ρ) (o := .dK []) hq).trans t12
          refine p2 q _ Hf2 ρ2 (hr2.own fq rq) ⟨tA.hf, tA.pre, fun a o ha hn => ?_, tA.fresh, tA.newh, fun a ha => ?_⟩ hq fq rq ⟨_, upd_same, ?_⟩
          · have : a ≠ q := fun z => by subst z; rw [hq] at ha; cases ha
            rw [upd_ne this]; exact tA.keep a o ha hn
          · by_cases z : a = q
            · subst z; rw [upd_same]; simp
            · rw [upd_ne z]; exact tA.alive a ha
          · exact ⟨y, [], rfl, w2, rfl⟩
/-- y = x, x one's own and not read again -/
def fMove (i j : Nat) : FS := fun _ E S => match E[i]? with
  | some (some (.own d)) => .nx ((E.set i none).set j (some (.own d))) S
  | _ => .stk
theorem s_move {i j : Nat} {x y : Str} {p1 pos' : Pos} (vx : Vr X i x) (l : Lr X j y) (hs : swapsWith (.Name x p1) (some (.Name y pos')) pos.line X.env = pure false) : QS X B W (.Assign [.Name y pos'] (.Name x p1) pos) (fMove i j) := by
  refine ⟨_, ps_set l.nd l.ix l.loc (pe_var vx.ix vx.vis vx.db vx.cd) hs l.fn, fun n E S σ H Hf ρ Q r p => ?_⟩
  unfold fMove at p
  split at p
  · rename_i d el
    obtain ⟨a, h1, h2, h3, h4, h5⟩ := r.sl i _ el
    refine ⟨.ref a, h1, ?_⟩
    refine p _ _ _ _ ((r.drop i).setOwn j h2 h3 h4 h5 fun k e ek hk => ?_) (Ext.refl _) (Pre.refl _)
    rcases get_set_own ek with ⟨rfl, ek, hl⟩ | ⟨hj, ek⟩
    · cases ek
    · exact hj (r.dis i k a _ _ el ek h1 hk)
  · exact p.elim
end
end DL

end

section
set_option autoImplicit false
set_option autoImplicit false
namespace DL
open PySem PySem.Spec PyProof.Rows L2
/-! ### dict(xs) of a list of pairs -/
def prD? : List D → Option (List (Key × D))
  | [] => some []
  | .tup [k, d] :: l => (keyD k).bind fun kk => (prD? l).map ((kk, d) :: ·)
  | _ :: _ => none
def mergeD (acc : List (Key × D)) (kvs : List (Key × D)) : List (Key × D) := kvs.foldl (fun acc kv => puD acc kv.1 kv.2) acc
def gDictP : List D → Option (List (Key × D))
  | [.lst l] => (prD? l).map (mergeD [])
  | _ => none
def fDictL (g : FA) : FE := fun n E S => (g n E S).bind fun ds S1 => match gDictP ds with
  | some l => .ok (.dct l) S1
  | none => .stk
section
variable {K : PySem.W.Frag} {H Hf : Hp} {ρ : List Addr} {S : Store}
theorem prD_spec (hr : HR K H Hf ρ S) : ∀ {l : List D} {vs : List V} {kvs : List (Key × D)}, prD? l = some kvs → Dts K Hf ρ l vs → ∃ (ps : List Addr) (us : List (Key × V)), vs = ps.map V.ref ∧ Paired (fun p kv => SqT K H p [kV kv.1, kv.2]) ps us ∧ Dks K Hf ρ kvs us
  | [], vs, kvs, h, w => by
    cases h
    simp only [Dts] at w
    subst w
    exact ⟨[], [], rfl, .nil, rfl⟩
  | d0 :: l, vs, kvs, h, w => by
    unfold prD? at h
    split at h
    · rename_i el
      cases el
    · rename_i k d l2 el
      cases el
      obtain ⟨kk, hk, h⟩ := Option.bind_eq_some_iff.mp h
      obtain ⟨m, hm, rfl⟩ := Option.map_eq_some_iff.mp h
      simp only [Dts] at w
      obtain ⟨v, r, rfl, w1, w2⟩ := w
      obtain ⟨a, us, rfl, s1, s2⟩ := (show ∃ a vs, v = .ref a ∧ SqT K Hf a vs ∧ Dts K Hf ρ [k, d] vs from w1)
      simp only [Dts] at s2
      obtain ⟨u1, r1, rfl, x1, u2, r2, rfl, x2, rfl⟩ := s2
      obtain ⟨ps, us, rfl, i1, i2⟩ := prD_spec hr hm w2
      have e1 := keyD_v hk (x1.dw hr)
      subst e1
      exact ⟨a :: ps, (kk, u2) :: us, rfl, .cons (hr.sub.sqT s1) i1, u2, us, rfl, x2, i2⟩
    · cases h
theorem mergeD_spec : ∀ {kvs acc : List (Key × D)} {us accV : List (Key × V)}, Dks K Hf ρ kvs us → Dks K Hf ρ acc accV → Dks K Hf ρ (mergeD acc kvs) (mergeK accV us)
  | [], acc, us, accV, h, g => by
    simp only [Dks] at h
    subst h; exact g
  | (k, d) :: kvs, acc, us, accV, h, g => by
    simp only [Dks] at h
    obtain ⟨v, r, rfl, h1, h2⟩ := h
    show Dks K Hf ρ (mergeD (puD acc k d) kvs) (mergeK (putK accV k v) r)
    exact mergeD_spec h2 (g.put (k := k) h1)
end
section
variable {X : Cx} {B : Gr} {W : WX} {x : Str} {e : Expr} {es : List Expr} {g : FA} {p1 pos : Pos}
theorem f_dictL (hcalm : X.calm = true) (hb : Blt X x) (hv : bootBuiltins x = some (.type "dict")) (hn : x ≠ "__name__") (hdb : (x == ("__debug__" : Str)) = false) (ha : QAr X B W (e :: es) g)
    (he : starEach (e :: es) X.env = (false, eval e X.env) :: starEach es X.env) (hpl : (backTo pos (starEach es X.env)).any (·.1) = false) : QF X B W (.Call (.Name x p1) (e :: es) [] pos) (fDictL g) := by
  obtain ⟨t, k1, k2⟩ := ha
  refine ⟨_, pe_callTy (call_dictP hcalm) hb.gl hb.free hv k1 hn hdb he hpl, fun n E S σ H Hf ρ Q r p => k2 n E S σ H Hf ρ _ r ?_⟩
  unfold fDictL at p
  cases e1 : g n E S with
  | stk => rw [e1] at p; exact p
  | exc y S1 => rw [e1] at p; exact p
  | ok ds S1 =>
    rw [e1] at p
    intro vs H1 Hf1 ρ1 hr1 t1 w1
    have p : PostF X.K W σ H Hf ρ Q (match gDictP ds with | some l => .ok (.dct l) S1 | none => .stk) := p
    cases eg : gDictP ds with
    | none => rw [eg] at p; exact p.elim
    | some m =>
      rw [eg] at p
      unfold gDictP at eg
      split at eg
      · rename_i l
        obtain ⟨kvs, hk, rfl⟩ := Option.map_eq_some_iff.mp eg
        obtain ⟨z, rfl, w2⟩ := dws1 w1
        obtain ⟨a, us, rfl, _, h2, h3⟩ := w2
        obtain ⟨ps, qs, rfl, h4, h5⟩ := prD_spec hr1 hk h3
        refine ⟨a, ps, qs, rfl, SqL.of h2, h4, fun q hq => ?_⟩
        refine new_own (d := .dct (mergeD [] kvs)) hr1 hq ⟨_, upd_same, mergeD_spec h5 rfl⟩ fun q' H' Hf' ρ' a1 a2 a3 a4 a5 a6 => ?_
        exact p q' H' Hf' ρ' a1 (t1.trans a2) (tr_none t1 q' a3) a4 a5 a6
      · cases eg
end
end DL

end

section
set_option autoImplicit false
set_option autoImplicit false
namespace DL
open PySem PySem.Spec PyProof.Rows L2
/-! ### comprehensions with two clauses -/
def lc2L (g : Tgt) (c : Env → Store → Res Bool) (it1 : Env → Store → Res (List D)) (g1 : Tgt) (c1 : Env → Store → Res Bool) (e : Env → Store → Res D) (vs1 : List Nat) : List D → Env → Store → Res (List D)
  | [], _, S => .ok [] S
  | d :: ds, E, S => match g d E with
    | none => .stk
    | some E1 => (c E1 S).bindN fun k S1 => match k with
      | true => (it1 E1 S1).bindN fun ds1 S2 => (lcL g1 c1 e ds1 (wipeE E1 vs1) S2).bindN fun us S3 => (lc2L g c it1 g1 c1 e vs1 ds E S3).bindN fun ws S4 => .ok (us ++ ws) S4
      | false => lc2L g c it1 g1 c1 e vs1 ds E S1
def fLc2 (it : FA) (g : Tgt) (c : FT) (it1 : FA) (g1 : Tgt) (c1 : FT) (e : FE) (vs vs1 : List Nat) : FE := fun n E S => (it n E S).bind fun ds S1 =>
  (lc2L g (c n) (it1 n) g1 (c1 n) (e n) vs1 ds (wipeE E vs) S1).bindN fun l S2 => if l.length ≤ 1000000 then .ok (.lst l) S2 else .stk
def canI (K : PySem.W.Frag) (B : Gr) (W : WX) (f : FA) : TI := fun σ H R => ∃ n E S Hf ρ, Rel K B E S σ H Hf ρ ∧ PostI K W σ H Hf ρ R (f n E S)
theorem QI.can {X : Cx} {B : Gr} {W : WX} {tg it : Expr} {f : FA} (h : QI X B W tg it f) : PI X tg it (canI X.K B W f) := by
  obtain ⟨t, a, b⟩ := h
  exact ⟨fun pins s σ H R I ⟨n, E, S, Hf, ρ, r, p⟩ => a.run pins s σ H R I (b n E S σ H Hf ρ R r p)⟩
/-- targets make nothing one's own -/
def GOwn (g : Tgt) : Prop := ∀ d E E', g d E = some E' → ∀ (i : Nat) s, E'[i]? = some (some (.own s)) → E[i]? = some (some (.own s))
def GOwns (g : Tgts) : Prop := ∀ l E E', g l E = some E' → ∀ (i : Nat) s, E'[i]? = some (some (.own s)) → E[i]? = some (some (.own s))
theorem gown_N (j : Nat) : GOwn (gN j) := fun d E E' h i s e => by
  cases h
  rcases get_set_own e with ⟨rfl, x, hl⟩ | ⟨hj, e⟩
  · cases x
  · exact e
theorem gown_nil : GOwns gNils := fun l E E' h i s e => by
  unfold gNils at h
  split at h
  · cases h; exact e
  · cases h
theorem gown_cons {g : Tgt} {gs : Tgts} (h1 : GOwn g) (h2 : GOwns gs) : GOwns (gConss g gs) := fun l E E' h i s e => by
  unfold gConss at h
  split at h
  · obtain ⟨E1, a, b⟩ := Option.bind_eq_some_iff.mp h
    exact h1 _ _ _ a i s (h2 _ _ _ b i s e)
  · cases h
theorem gown_T {gs : Tgts} (h : GOwns gs) : GOwn (gT gs) := fun d E E' hh i s e => by
  unfold gT at hh
  split at hh
  · exact h _ _ _ hh i s e
  · cases hh
def NotOwn (E : Env) (σ : L2.St) (D : Addr) : Prop := ∀ (i : Nat) d, E[i]? = some (some (.own d)) → σ[i]? ≠ some (some (.ref D))
theorem Rel.updD {K : PySem.W.Frag} {B : Gr} {E : Env} {S : Store} {σ : L2.St} {H Hf : Hp} {ρ : List Addr} (r : Rel K B E S σ H Hf ρ) {D : Addr} {o : HO} (h0 : B.H0 D = none) (hf : Hf D = none) (hn : D ∉ ρ) (ho : NotOwn E σ D) :
    Rel K B E S σ (upd H D o) Hf ρ := by
  refine ⟨r.hr.own hf hn, ⟨r.tr.hf, r.tr.pre, fun b u hb hbn => ?_, r.tr.fresh, r.tr.newh, fun b hb => ?_⟩, r.len, fun j s ej => ?_, r.dis⟩
  · have : b ≠ D := fun z => by subst z; rw [h0] at hb; cases hb
    rw [upd_ne this]; exact r.tr.keep b u hb hbn
  · by_cases z : b = D
    · subst z; rw [upd_same]; simp
    · rw [upd_ne z]; exact r.tr.alive b hb
  · have q := r.sl j s ej
    cases s with
    | fz d => exact q
    | own d2 =>
      obtain ⟨b, q1, q2, q3, q4, q5⟩ := q
      have ne : b ≠ D := fun z => ho j d2 ej (by rw [q1, z])
      refine ⟨b, q1, q2, q3, q4, ?_⟩
      cases d2 with
      | lst l => obtain ⟨vs, k1, k2⟩ := q5; exact ⟨vs, by rw [upd_ne ne]; exact k1, k2⟩
      | dct l => obtain ⟨vs, k1, k2⟩ := q5; exact ⟨vs, by rw [upd_ne ne]; exact k1, k2⟩
      | _ => exact q5.elim
theorem wipe_none (vs : List Nat) (τ : L2.St) (v : Nat) (hv : v ∈ vs) : (L2.wipe τ vs).set v none = L2.wipe τ vs := by
  induction vs generalizing τ with
  | nil => cases hv
  | cons w ws ih =>
    unfold L2.wipe
    rcases List.mem_cons.mp hv with rfl | hv
    · rw [List.set_set]
    · by_cases hvw : v = w
      · subst hvw; rw [List.set_set]
      · rw [List.set_comm _ _ (Ne.symm hvw), ih τ hv]
theorem wipe_wipe (us vs : List Nat) (τ : L2.St) (h : ∀ v ∈ us, v ∈ vs) : L2.wipe (L2.wipe τ vs) us = L2.wipe τ vs := by
  induction us with
  | nil => rfl
  | cons w ws ih =>
    show (L2.wipe (L2.wipe τ vs) ws).set w none = L2.wipe τ vs
    rw [ih fun v h' => h v (List.mem_cons_of_mem _ h'), wipe_none vs τ w (h w List.mem_cons_self)]
theorem wipe_get (τ : L2.St) (i : Nat) : ∀ vs : List Nat, i ∉ vs → (L2.wipe τ vs)[i]? = τ[i]?
  | [], _ => rfl
  | v :: vs, h => by
    show ((L2.wipe τ vs).set v none)[i]? = _
    rw [List.getElem?_set_ne (fun z => h (by rw [z]; exact List.mem_cons_self)), wipe_get τ i vs fun z => h (List.mem_cons_of_mem _ z)]
theorem wipeE_get (E : Env) (i : Nat) (s : Sl) : ∀ vs : List Nat, (wipeE E vs)[i]? = some (some s) → i ∉ vs ∧ E[i]? = some (some s)
  | [], h => ⟨by simp, h⟩
  | v :: vs, h => by
    have h : ((wipeE E vs).set v none)[i]? = some (some s) := h
    by_cases z : v = i
    · subst z
      rw [List.getElem?_set] at h
      split at h
      · split at h
        · cases h
        · cases h
      · rename_i hh; exact absurd rfl hh
    · rw [List.getElem?_set_ne z] at h
      obtain ⟨a, b⟩ := wipeE_get E i s vs h
      exact ⟨fun q => (List.mem_cons.mp q).elim (fun q => z q.symm) a, b⟩
theorem stayD {D : Addr} {xs : List V} {Ha Hfa : Hp} {ρa : List Addr} {Hb Hfb : Hp} {ρb : List Addr} (t : Tr Ha Hfa ρa Hb Hfb ρb) (a1 : Ha D = some (.lst xs)) (a2 : Hfa D = none) (a3 : D ∉ ρa) : Hb D = some (.lst xs) ∧ Hfb D = none ∧ D ∉ ρb := by
  refine ⟨t.keep _ _ a1 a3, ?_, fun z => ?_⟩
  · cases z : Hfb D with
    | none => rfl
    | some u =>
      rcases t.fresh D (by rw [z]; simp) with q | q
      · exact absurd a2 q
      · rw [a1] at q; cases q
  · rcases t.newh D z with q | q
    · exact a3 q
    · rw [a1] at q; cases q
theorem Tr.updD {H Hf H' Hf' : Hp} {ρ ρ' : List Addr} (t : Tr H Hf ρ H' Hf' ρ') {D : Addr} {o : HO} (h : H D = none) : Tr H Hf ρ (upd H' D o) Hf' ρ' :=
  ⟨t.hf, t.pre, fun a u ha hn => by
    have : a ≠ D := fun z => by subst z; rw [h] at ha; cases ha
    rw [upd_ne this]; exact t.keep a u ha hn, t.fresh, t.newh, fun a ha => by
    by_cases z : a = D
    · subst z; rw [upd_same]; simp
    · rw [upd_ne z]; exact t.alive a ha⟩
section
variable {K : PySem.W.Frag} {B : Gr} {g1 : Tgt} {ft1 : FT} {fe : FE} {is1 vs1 : List Nat}
/-- the inner loop: it makes the list at D longer -/
theorem in_read {n : Nat} {Ew : Env} {S0 Se : Store} {σ2 : L2.St} {H0 Hf0 H1 Hf1 : Hp} {ρ0 ρ1 : List Addr} {C : Addr} {acc us ds : List D} {accV : List V} {J : It} {Nx : Hp → Prop}
    (hw : ∀ i ∈ is1, i ∈ vs1) (r : Rel K B Ew S0 (L2.wipe σ2 vs1) H0 Hf0 ρ0) (tB : Tr H1 Hf1 ρ1 H0 Hf0 ρ0) (hD : H0 C = some (.lst accV)) (hf : Hf0 C = none) (hn : C ∉ ρ0) (hB : B.H0 C = none) (h1D : H1 C = none) (hno : NotOwn Ew (L2.wipe σ2 vs1) C)
    (wacc : Dts K Hf0 ρ0 acc accV) (wk : WalkD K J ds Hf0 ρ0) (el : lcL g1 (ft1 n) (fe n) ds Ew S0 = .ok us Se) (hb : acc.length + us.length ≤ 1000000)
    (NX : ∀ H' Hf' ρ' accV', HR K H' Hf' ρ' Se → Tr H1 Hf1 ρ1 H' Hf' ρ' → H' C = some (.lst accV') → Hf' C = none → C ∉ ρ' → Dts K Hf' ρ' (acc ++ us) accV' → Nx H') :
    ∃ W1 : Nat → Nat → Hp → Prop, (∃ m, W1 0 m H0) ∧ ∀ j k H, W1 j k H →
      (J.stop j H ∧ Nx H) ∨ (J.go j H ∧ ∃ Nx1 : Hp → Prop, (∀ H', Nx1 H' → ∃ k', k' < k ∧ W1 (j + 1) k' H') ∧ ∀ x H', J.yld j H x H' → canG K B is1 g1 x (L2.wipe σ2 vs1) H' fun σ3 H5 => L2.wipe σ3 vs1 = L2.wipe σ2 vs1 ∧ canT K B W0 ft1 σ3 H5 fun b H6 =>
        if b = true then canE K B W0 fe σ3 H6 fun y H7 => ∃ acc, H7 C = some (.lst acc) ∧ acc.length < sizeLine ∧ Nx1 (upd H7 C (.lst (acc ++ [y]))) else Nx1 H6) := by
  let Wi : Nat → Nat → Hp → Prop := fun j k H2 => ∃ S2 Hf2 ρ2 a2 aV2 l, Rel K B Ew S2 (L2.wipe σ2 vs1) H2 Hf2 ρ2 ∧ Tr H1 Hf1 ρ1 H2 Hf2 ρ2 ∧ Ext Hf0 Hf2 ∧ Pre ρ0 ρ2 ∧ H2 C = some (.lst aV2) ∧ Hf2 C = none ∧ C ∉ ρ2 ∧ Dts K Hf2 ρ2 a2 aV2 ∧
    k = ds.length - j ∧ lcL g1 (ft1 n) (fe n) (ds.drop j) Ew S2 = .ok l Se ∧ acc ++ us = a2 ++ l
  refine ⟨Wi, ⟨ds.length, S0, Hf0, ρ0, acc, accV, us, r, tB, Ext.refl _, Pre.refl _, hD, hf, hn, wacc, by simp, by simpa using el, rfl⟩, ?_⟩
  rintro j k H2 ⟨S2, Hf2, ρ2, a2, aV2, l, r2, t2, ex2, pr2, hD2, hf2, hn2, w2, rfl, el2, eL⟩
  obtain ⟨k1, k2⟩ := wk H2 Hf2 ρ2 S2 r2.hr ex2 pr2 j
  by_cases hi : j < ds.length
  · obtain ⟨go, yl⟩ := k1 ds[j] (List.getElem?_eq_getElem hi)
    have ed : ds.drop j = ds[j] :: ds.drop (j + 1) := List.drop_eq_getElem_cons hi
    rw [ed] at el2
    refine .inr ⟨go, Wi (j + 1) (ds.length - (j + 1)), fun H' w => ⟨ds.length - (j + 1), by omega, w⟩, fun x H3 y => ?_⟩
    obtain ⟨Hf3, hr3, t3, w3⟩ := yl x H3 y
    obtain ⟨b1, b2, b3⟩ := stayD t3 hD2 hf2 hn2
    have r3 := r2.step hr3 t3
    unfold lcL at el2
    cases eg : g1 ds[j] Ew with
    | none => rw [eg] at el2; cases el2
    | some E3 =>
      rw [eg] at el2
      obtain ⟨k, S4, ec, el2⟩ := Res.bindN_ok el2
      refine ⟨ds[j], Ew, E3, S2, Hf3, ρ2, r3, w3, eg, fun σ4 r4 hwp => ⟨(hwp _ hw).trans (wipe_wipe vs1 vs1 σ2 fun _ h => h), n, E3, S2, Hf3, ρ2, r4, ?_⟩⟩
      rw [ec]
      intro H4 Hf4 ρ4 hr4 t4
      obtain ⟨c1, c2, c3⟩ := stayD t4 b1 b2 b3
      cases k with
      | false =>
        rw [if_neg Bool.false_ne_true]
        exact ⟨S4, Hf4, ρ4, a2, aV2, l, r3.step hr4 t4, (t2.trans t3).trans t4, (ex2.trans t3.hf).trans t4.hf, (pr2.trans t3.pre).trans t4.pre, c1, c2, c3, w2.mono (t3.hf.trans t4.hf) (t3.pre.trans t4.pre), rfl, el2, eL⟩
      | true =>
        rw [if_pos rfl]
        obtain ⟨v, S5, ev, el2⟩ := Res.bindN_ok el2
        obtain ⟨ws, S6, ews, el2⟩ := Res.bindN_ok el2
        cases el2
        refine ⟨n, E3, S4, Hf4, ρ4, r4.step hr4 t4, ?_⟩
        rw [ev]
        intro y H5 Hf5 ρ5 hr5 t5 w5
        obtain ⟨d1, d2, d3⟩ := stayD t5 c1 c2 c3
        have hlen : a2.length < 1000001 := by
          have := congrArg List.length eL
          simp only [List.length_append, List.length_cons] at this
          omega
        refine ⟨aV2, d1, ?_, ?_⟩
        · rw [← w2.length]; exact Nat.lt_of_lt_of_le hlen (by decide)
        · have tA := ((t2.trans t3).trans t4).trans t5
          refine ⟨S5, Hf5, ρ5, a2 ++ [v], aV2 ++ [y], ws, ((r3.step hr4 t4).step hr5 t5).updD hB d2 d3 hno, tA.updD h1D, ((ex2.trans t3.hf).trans t4.hf).trans t5.hf, ((pr2.trans t3.pre).trans t4.pre).trans t5.pre, upd_same, d2, d3, ?_, rfl, ews, ?_⟩
          · exact (w2.mono ((t3.hf.trans t4.hf).trans t5.hf) ((t3.pre.trans t4.pre).trans t5.pre)).append (Dts.one w5)
          · rw [eL, List.append_assoc]; rfl
  · refine .inl ⟨k2 (by omega), ?_⟩
    rw [List.drop_eq_nil_of_le (by omega)] at el2
    cases el2
    rw [List.append_nil] at eL
    exact NX H2 Hf2 ρ2 aV2 r2.hr t2 hD2 hf2 hn2 (by rw [eL]; exact w2)
end
section
variable {X : Cx} {B : Gr} {W : WX} {fi fi1 : FA} {g g1 : Tgt} {ft ft1 : FT} {fe : FE} {is is1 vs1 : List Nat} {own : List (Str × Nat)}
theorem lc2_read {wi : TI} (i2 : ∀ n E S σ H Hf ρ R, Rel X.K B E S σ H Hf ρ → PostI X.K W σ H Hf ρ R (fi n E S) → wi σ H R) (hw : ∀ i ∈ is, i ∈ own.map (·.2)) (hw1 : ∀ i ∈ is1, i ∈ vs1) (hgo : GOwn g)
    (n : Nat) (E : Env) (S : Store) (σ : L2.St) (H Hf : Hp) (ρ : List Addr) (Q : VK) (r : Rel X.K B E S σ H Hf ρ) (p : PostF X.K W σ H Hf ρ Q (fLc2 fi g ft fi1 g1 ft1 fe (own.map (·.2)) vs1 n E S)) :
    tLc2 wi (canG X.K B is g) (canT X.K B W0 ft) (canI X.K B W0 fi1) (canG X.K B is1 g1) (canT X.K B W0 ft1) (canE X.K B W0 fe) (own.map (·.2)) vs1 σ H Q := by
  refine i2 n E S σ H Hf ρ _ r ?_
  unfold fLc2 at p
  cases e1 : fi n E S with
  | stk => rw [e1] at p; exact p
  | exc y S1 => rw [e1] at p; exact p
  | ok ds S1 =>
    rw [e1] at p
    intro J H1 Hf1 ρ1 hr1 t1 wk C hC
    have p : PostF X.K W σ H Hf ρ Q ((lc2L g (ft n) (fi1 n) g1 (ft1 n) (fe n) vs1 ds (wipeE E (own.map (·.2))) S1).bindN fun l S2 => if l.length ≤ 1000000 then .ok (.lst l) S2 else .stk) := p
    cases el : lc2L g (ft n) (fi1 n) g1 (ft1 n) (fe n) vs1 ds (wipeE E (own.map (·.2))) S1 with
    | stk => rw [el] at p; exact p.elim
    | exc y S2 => rw [el] at p; exact p.elim
    | ok L Se =>
      rw [el] at p
      have p : PostF X.K W σ H Hf ρ Q (if L.length ≤ 1000000 then .ok (.lst L) Se else .stk) := p
      by_cases hl : L.length ≤ 1000000
      · rw [if_pos hl] at p
        have nH : H C = none := by
          cases z : H C with
          | none => rfl
          | some o => exact absurd hC (t1.alive C (by rw [z]; simp))
        have nB : B.H0 C = none := by
          cases z : B.H0 C with
          | none => rfl
          | some o => exact absurd nH (r.tr.alive C (by rw [z]; simp))
        have no0 : NotOwn (wipeE E (own.map (·.2))) (L2.wipe σ (own.map (·.2))) C := fun i d e z => by
          obtain ⟨a, h1, _, _, _, h5⟩ := (r.wipe (own.map (·.2))).sl i _ e
          rw [h1] at z; cases z
          obtain ⟨o, ho⟩ := h5.there
          rw [nH] at ho; cases ho
        have own_out : ∀ (i : Nat) (d : D), (wipeE E (own.map (·.2)))[i]? = some (some (.own d)) → i ∉ own.map (·.2) := fun i d e => (wipeE_get E i _ _ e).1
        generalize hEw : wipeE E (own.map (·.2)) = Ew at el no0 own_out
        have rw0 : Rel X.K B Ew S (L2.wipe σ (own.map (·.2))) H Hf ρ := hEw ▸ r.wipe (own.map (·.2))
        let Wi : Nat → Nat → Hp → Prop := fun i m H2 => ∃ S2 Hf2 ρ2 acc accV l, HR X.K H2 Hf2 ρ2 S2 ∧ Tr H1 Hf1 ρ1 H2 Hf2 ρ2 ∧ H2 C = some (.lst accV) ∧ Hf2 C = none ∧ C ∉ ρ2 ∧ Dts X.K Hf2 ρ2 acc accV ∧
          m = ds.length - i ∧ lc2L g (ft n) (fi1 n) g1 (ft1 n) (fe n) vs1 (ds.drop i) Ew S2 = .ok l Se ∧ L = acc ++ l
        refine ⟨Wi, ⟨ds.length, S1, Hf1, ρ1, [], [], L, hr1.own (hr1.hnone hC) (hr1.notin hC), Tr.own hC, upd_same, hr1.hnone hC, hr1.notin hC, rfl, by simp, by simpa using el, rfl⟩, ?_⟩
        rintro i m H2 ⟨S2, Hf2, ρ2, acc, accV, l, hr2, t2, hC2, hfC, hCn, wacc, rfl, ell, eL⟩
        obtain ⟨k1, k2⟩ := wk H2 Hf2 ρ2 S2 hr2 t2.hf t2.pre i
        by_cases hi : i < ds.length
        · obtain ⟨go, yl⟩ := k1 ds[i] (List.getElem?_eq_getElem hi)
          have ed : ds.drop i = ds[i] :: ds.drop (i + 1) := List.drop_eq_getElem_cons hi
          rw [ed] at ell
          refine .inr ⟨go, Wi (i + 1) (ds.length - (i + 1)), fun H' w => ⟨ds.length - (i + 1), by omega, w⟩, fun x H3 y => ?_⟩
          obtain ⟨Hf3, hr3, t3, w3⟩ := yl x H3 y
          obtain ⟨b1, b2, b3⟩ := stayD t3 hC2 hfC hCn
          have r3 := rw0.step hr3 ((t1.trans t2).trans t3)
          unfold lc2L at ell
          cases eg : g ds[i] Ew with
          | none => rw [eg] at ell; cases ell
          | some E3 =>
            rw [eg] at ell
            obtain ⟨k, S4, ec, ell⟩ := Res.bindN_ok ell
            refine ⟨ds[i], Ew, E3, S2, Hf3, ρ2, r3, w3, eg, fun σ4 r4 hwp => ⟨(hwp _ hw).trans (wipe_wipe _ _ σ fun _ h => h), n, E3, S2, Hf3, ρ2, r4, ?_⟩⟩
            rw [ec]
            intro H4 Hf4 ρ4 hr4 t4
            obtain ⟨c1, c2, c3⟩ := stayD t4 b1 b2 b3
            cases k with
            | false =>
              rw [if_neg Bool.false_ne_true]
              exact ⟨S4, Hf4, ρ4, acc, accV, l, hr4, (t2.trans t3).trans t4, c1, c2, c3, wacc.mono (t3.hf.trans t4.hf) (t3.pre.trans t4.pre), rfl, ell, eL⟩
            | true =>
              rw [if_pos rfl]
              obtain ⟨ds1, S5, ei, ell⟩ := Res.bindN_ok ell
              obtain ⟨us, S6, eu, ell⟩ := Res.bindN_ok ell
              obtain ⟨ws, S7, ew, ell⟩ := Res.bindN_ok ell
              cases ell
              refine ⟨n, E3, S4, Hf4, ρ4, r4.step hr4 t4, ?_⟩
              rw [ei]
              intro J1 H5 Hf5 ρ5 hr5 t5 wk1
              obtain ⟨d1, d2, d3⟩ := stayD t5 c1 c2 c3
              have tA := ((t2.trans t3).trans t4).trans t5
              have no1 : NotOwn (wipeE E3 vs1) (L2.wipe σ4 vs1) C := fun j d e z => by
                obtain ⟨a1, a2⟩ := wipeE_get E3 j _ vs1 e
                have a3 := hgo _ _ _ eg j d a2
                have a4 := own_out j d a3
                rw [wipe_get σ4 j vs1 a1] at z
                have a5 := congrArg (fun τ : L2.St => τ[j]?) (hwp _ hw)
                simp only [wipe_get _ j _ a4] at a5
                refine no0 j d a3 ?_
                rw [wipe_get _ j _ a4]
                rw [a5] at z
                exact z
              have hlen : acc.length + us.length ≤ 1000000 := by
                have := congrArg List.length eL
                simp only [List.length_append] at this
                omega
              refine in_read hw1 (((r4.step hr4 t4).step hr5 t5).wipe vs1) tA d1 d2 d3 nB hC no1 (wacc.mono ((t3.hf.trans t4.hf).trans t5.hf) ((t3.pre.trans t4.pre).trans t5.pre)) wk1 eu hlen fun H' Hf' ρ' accV' q1 q2 q3 q4 q5 q6 => ?_
              exact ⟨S6, Hf', ρ', acc ++ us, accV', ws, q1, q2, q3, q4, q5, q6, rfl, ew, by rw [eL, List.append_assoc]⟩
        · refine .inl ⟨k2 (by omega), ?_⟩
          rw [List.drop_eq_nil_of_le (by omega)] at ell
          cases ell
          rw [List.append_nil] at eL
          subst eL
          exact p C H2 Hf2 ρ2 hr2 (t1.trans t2) nH hfC hCn ⟨accV, hC2, wacc⟩
      · rw [if_neg hl] at p; exact p.elim
end
section
variable {X : Cx} {B : Gr} {W : WX} {tg it tg1 it1 elt : Expr} {scope : Scope} {own : List (Str × Nat)} {pos : Pos} {is is1 vs1 : List Nat} {fi fi1 : FA} {g g1 : Tgt} {fe : FE}
/-- [elt for tg in it for tg1 in it1] -/
theorem f_lc2 (cc : Cc X W) (hi : QI X B W tg it fi) (ok : blkC X.N X.env.scope scope own = true) (hv : ∀ i ∈ vs1, i ∈ own.map (·.2))
    (hg : ∀ (s : Shared) (H : Hp) (C : Addr) (cl : List (Str × Addr)) (fp : List Addr), QG (blkX X s H scope cl C fp) B tg is g) (hgo : GOwn g)
    (hi1 : ∀ (s : Shared) (H : Hp) (C : Addr) (cl : List (Str × Addr)) (fp : List Addr), QI (blkX X s H scope cl C fp) B W0 tg1 it1 fi1)
    (hg1 : ∀ (s : Shared) (H : Hp) (C : Addr) (cl : List (Str × Addr)) (fp : List Addr), QG (blkX X s H scope cl C fp) B tg1 is1 g1)
    (he : ∀ (s : Shared) (H : Hp) (C : Addr) (cl : List (Str × Addr)) (fp : List Addr), QE (blkX X s H scope cl C fp) B W0 elt fe) (hw : ∀ i ∈ is, i ∈ own.map (·.2)) (hw1 : ∀ i ∈ is1, i ∈ vs1)
    (hs : ∀ x, foldedSetIterable it X.env x = pure x) (hs1 : ∀ env x, foldedSetIterable it1 env x = pure x) :
    QF X B W (.ListComp elt [⟨tg, it, [], 0⟩, ⟨tg1, it1, [], 0⟩] scope pos) (fLc2 fi g fYes fi1 g1 fYes fe (own.map (·.2)) vs1) := by
  obtain ⟨wi, i1, i2⟩ := hi
  exact ⟨_, pe_lc2 cc.calm cc.nd i1 (blkOk_by ok) hv (fun s H C cl fp => (hg s H C cl fp).can) (fun s H C cl fp => t_yes) (fun s H C cl fp => (hi1 s H C cl fp).can) (fun s H C cl fp => (hg1 s H C cl fp).can) (fun s H C cl fp => t_yes) (fun s H C cl fp => (he s H C cl fp).can) hs hs1, lc2_read i2 hw hw1 hgo⟩
end
end DL

end

section
set_option autoImplicit false
set_option autoImplicit false
namespace HT
open PySem PySem.Spec PyProof.Rows
theorem pick_revT (xs : Array Value) : ((List.range xs.size).filterMap fun (m : Nat) => xs[((xs.size : Int) - 1 + (m : Int) * (-1)).toNat]?).toArray = xs.toList.reverse.toArray := by
  congr 1
  apply List.ext_getElem?
  intro i
  have e : (fun (m : Nat) => xs[((xs.size : Int) - 1 + (m : Int) * (-1)).toNat]?) = fun m => xs[xs.size - 1 - m]? := by
    funext m
    have : ((xs.size : Int) - 1 + (m : Int) * (-1)).toNat = xs.size - 1 - m := by omega
    rw [this]
  rw [e]
  have e2 : ∀ k, k ≤ xs.size → (List.range k).filterMap (fun m => xs[xs.size - 1 - m]?) = (xs.toList.reverse).take k := fun k => by
    induction k with
    | zero => intro _; rfl
    | succ k ih =>
      intro hk
      rw [List.range_succ, List.filterMap_append, ih (by omega), List.take_succ]
      congr 1
      have hlt : xs.size - 1 - k < xs.size := by omega
      have h1 : xs[xs.size - 1 - k]? = some xs[xs.size - 1 - k] := Array.getElem?_eq_getElem hlt
      have h2 : xs.toList.reverse[k]? = some xs[xs.size - 1 - k] := by
        rw [List.getElem?_reverse (by rw [Array.length_toList]; omega), Array.length_toList]
        rw [Array.getElem?_toList, h1]
      rw [h2]
      simp [h1]
  rw [e2 xs.size (Nat.le_refl _), List.take_of_length_le (by simp)]
section
variable {prog : Program} {w : World} {A : Around} {E : Value → Shared → Prop} {s : Shared}
theorem sliceApplied_rev {sl : Addr} {vl vu vs : Value} {n : Nat} {Q : Int × Int × Nat → Shared → Prop} (hs : s.heap.IsSliceOf sl vl vu vs) (pl : IsPart vl none) (pu : IsPart vu none) (ps : IsPart vs (some (-1)))
    (h : Q ((n : Int) - 1, -1, n) s) : wpAny (model prog w) A (Builtin.Slice.sliceApplied (.ref sl) (pure (n : Int))) Q E s := by
  obtain ⟨os, hos, hcs, hds⟩ := id hs
  unfold Builtin.Slice.sliceApplied Builtin.Slice.sliceFields
  refine wpAny_bind (wpAny_bind (wpAny_field hos hds (x := vl) rfl (wpAny_bind (wpAny_field hos hds (x := vu) rfl (wpAny_bind (wpAny_field hos hds (x := vs) rfl (wpAny_pure ?_)))))))
  refine wpAny_bind (slicePart_ ps ?_)
  show wpAny _ _ (if ((-1 : Int) == 0) = true then _ else _) _ _ s
  rw [if_neg (by decide)]
  refine wpAny_bind (slicePart_ pl (wpAny_bind (slicePart_ pu (wpAny_bind (wpAny_pure ?_)))))
  show wpAny _ _ (match Builtin.Slice.sliceAdjust none none (-1) (n : Int) with | (lo, hi) => pure (lo, (-1 : Int), Builtin.Slice.slicePlaces lo hi (-1))) _ _ s
  have ea : Builtin.Slice.sliceAdjust none none (-1) (n : Int) = ((n : Int) - 1, -1) := by
    unfold Builtin.Slice.sliceAdjust
    simp
  rw [ea]
  show wpAny _ _ (pure ((n : Int) - 1, (-1 : Int), Builtin.Slice.slicePlaces ((n : Int) - 1) (-1) (-1))) _ _ s
  have ep : Builtin.Slice.slicePlaces ((n : Int) - 1) (-1) (-1) = n := by
    unfold Builtin.Slice.slicePlaces
    simp
    try omega
  rw [ep]
  exact wpAny_pure h
theorem getItem_tuple_rev {t sl : Addr} {items : Array Value} {vl vu vs : Value} {Q : Value → Shared → Prop} (ht : IsTup s.heap t items) (hs : s.heap.IsSliceOf sl vl vu vs) (pl : IsPart vl none) (pu : IsPart vu none) (ps : IsPart vs (some (-1)))
    (h : Q (.ref s.heap.objs.size) { s with heap := s.heap.push { cls := .type "tuple", data := .seq items.toList.reverse.toArray } })
    (hsz : items.size ≤ sizeLine) : wpAny (model prog w) A (getItem (.ref t) (.ref sl)) Q E s := by
  have htake : sizeOk (.seq items.toList.reverse.toArray) := by
    show items.toList.reverse.toArray.size ≤ sizeLine
    rw [List.size_toArray, List.length_reverse, Array.length_toList]
    exact hsz
  obtain ⟨os, hos, hcs, hds⟩ := id hs
  have hTs : s.TypeIs (.ref sl) "slice" := ⟨os, hos, hcs⟩
  unfold getItem
  try with_reducible refine wpAny_holding ?_
  first | refine wpAny_bind (wpAny_pure ?_) | skip
  refine wpAny_bind (wpAny_sequenceKey ht.typeIs (by decide) ?_)
  refine wpAny_bind (wpAny_callSpecial?_slot (name := Str.ofString "__getitem__") ht.typeIs PyProof.Rows.slot_tuple_getitem
    (wpAny_call_entry PyProof.Rows.slot_tuple_getitem ht.typeIs entry_tuple_getitem ?_ (args_tuple_getitem _ _)))
  show wpAny _ _ (Builtin.Tuple.tupleItemsOf (.ref t) >>= _) _ _ s
  refine wpAny_bind (tupleItemsOf_ ht ?_)
  refine wpAny_bind (wpAny_typeOf hTs ?_)
  rw [if_pos (by decide)]
  refine wpAny_bind (sliceApplied_rev hs pl pu ps ?_)
  have hno : ¬ ((((items.size : Int) - 1) == 0 && (-1 : Int) == 1 && items.size == items.size) = true) := by
    intro q
    rw [Bool.and_eq_true, Bool.and_eq_true] at q
    have q2 : ((-1 : Int) == 1) = true := q.1.2
    exact absurd q2 (by decide)
  show wpAny _ _ (if (((items.size : Int) - 1) == 0 && (-1 : Int) == 1 && items.size == items.size) = true then _ else _) _ _ s
  rw [if_neg hno, pick_revT]
  first
    | exact wpAny_bind (m := Builtin.Tuple.tupleExact _) (wpAny_newObj_type (wpAny_pure ⟨_, rfl, wpAny_pure h⟩) htake)
    | exact wpAny_bind (m := Builtin.Tuple.tupleExact _) (wpAny_newObj_type (wpAny_bind (wpAny_pure (wpAny_pure ⟨_, rfl, wpAny_pure h⟩))) htake)
    | exact wpAny_bind (wpAny_bind (m := Builtin.Tuple.tupleExact _) (wpAny_newObj_type (wpAny_pure (wpAny_pure ⟨_, rfl, wpAny_pure h⟩)) htake))
    | exact wpAny_bind (wpAny_bind (m := Builtin.Tuple.tupleExact _) (wpAny_newObj_type (wpAny_pure ⟨_, rfl, wpAny_pure h⟩) htake))
end
end HT
namespace L2
open PySem PySem.Spec PyProof.Rows
def tRevT (K : PySem.W.Frag) (te : TE) : TE := fun σ H Q => te σ H fun x H1 => ∃ a xs, x = .ref a ∧ SqT K H1 a xs ∧ ∀ p, H1 p = none → Q (.ref p) (upd H1 p (.tup xs.reverse))
theorem pe_revT {X : Cx} {e : Expr} {te : TE} {k : Nat} {p1 p2 p3 pos : Pos} (he : PE X e te) : PE X (.Subscript e (.Slice none none (some (.UnaryOp .USub (.Constant (.int 1) k p1) p2)) p3) pos) (tRevT X.K te) := by
  refine ⟨fun pins s σ H Q I h => ?_⟩
  refine Subscript_ (thn (he.run pins s σ H _ I h) fun v s1 ⟨x, H1, I1, r1, q1⟩ => ?_)
  obtain ⟨a, xs, ex, hx, q⟩ := q1
  subst ex
  cases r1
  have hst : PO X (some (.UnaryOp .USub (.Constant (.int 1) k p1) p2)) (tPart (tUn (rU fun i => .int (-i)) (tC (.int 1)))) := po_some (pe_un un_neg pe_int)
  refine wpAny_Slice (thn (po_none.run pins s1 σ H1 (fun o H2 => o = none ∧ H2 = H1) I1 ⟨rfl, rfl⟩) fun vl s2 ⟨l, H2, I2, pl, el, e2⟩ => ?_)
  subst el e2
  refine thn (po_none.run pins s2 σ H2 (fun o H3 => o = none ∧ H3 = H2) I2 ⟨rfl, rfl⟩) fun vu s3 ⟨u, H3, I3, pu, eu, e3⟩ => ?_
  subst eu e3
  refine thn (hst.run pins s3 σ H3 (fun o H4 => o = some (-1) ∧ H4 = H3) I3 ⟨1, rfl, -1, rfl, rfl, rfl⟩) fun vs s4 ⟨o, H4, I4, ps, eo, e4⟩ => ?_
  subst eo e4
  have I5 : Inv X pins σ H4 { s4 with heap := s4.heap.push { cls := .type "slice", data := .fields #[vl, vu, vs] } } := I4.kept (t' := s4.toks) fun b ob q => Heap.get?_push_of_some _ q
  obtain ⟨its, r, ht, hz⟩ := I5.tuple hx
  have hlen := r.length
  show wpAny (model X.prog X.w) X.A (subscriptTail e (.Slice none none (some (.UnaryOp .USub (.Constant (.int 1) k p1) p2)) p3) (.ref a) (.ref s4.heap.objs.size)) (EP X pins σ Q) X.xe { s4 with heap := s4.heap.push { cls := .type "slice", data := .fields #[vl, vu, vs] } }
  refine tail_any (ops := [.ref a, .ref s4.heap.objs.size]) ht.typeIs (PyProof.Rows.slot_tuple_getitem.lookup) ?_ (by with_unfolding_all rfl)
  refine HT.getItem_tuple_rev ht (Heap.IsSliceOf.new _ vl vu vs) pl pu ps ?_ (by rw [List.size_toArray]; omega)
  refine ⟨.ref _, _, I5.laid (t' := s4.toks) (o := .tup xs.reverse) (fun b ob q => Heap.get?_push_of_some _ q) (Nat.le_refl _) ?_, rfl, q _ (I5.hok.fresh (Nat.le_refl _))⟩
  exact ⟨by rw [List.length_reverse]; exact hz, _, r.reverse, IsTup.new _ _⟩
end L2
namespace DL
open PySem PySem.Spec PyProof.Rows L2
def gRevT : D → Option D
  | .tup l => some (.tup l.reverse)
  | _ => none
def gRev : D → Option D
  | .lst l => some (.lst l.reverse)
  | .tup l => some (.tup l.reverse)
  | _ => none
section
variable {X : Cx} {B : Gr} {W : WX} {e : Expr} {fe : FE}
theorem q_rev {k : Nat} {p1 p2 p3 pos : Pos} (he : QR X B W e fe) : QE X B W (.Subscript e (.Slice none none (some (.UnaryOp .USub (.Constant (.int 1) k p1) p2)) p3) pos) (fUn gRev fe) := by
  obtain ⟨ta, a1, a2⟩ := he
  refine ⟨_, pe_or (pe_revL a1) (pe_revT a1), fun n E S σ H Hf ρ Q R p => ?_⟩
  by_cases hT : ∃ l S1, fe n E S = .ok (.tup l) S1
  · obtain ⟨l, S1, h⟩ := hT
    have eq : fUn gRev fe n E S = fUn gRevT fe n E S := by unfold fUn; rw [h]; rfl
    rw [eq] at p
    refine .inr (un_postF (r := fun x H Q => ∃ a xs, x = .ref a ∧ SqT X.K H a xs ∧ ∀ p, H p = none → Q (.ref p) (upd H p (.tup xs.reverse))) a2 (fun d x H Hf ρ S Q r hr w g kk => ?_) n E S σ H Hf ρ Q R p)
    unfold gRevT at g
    split at g
    · rename_i l2
      cases g
      obtain ⟨a, vs, rfl, g2, g3⟩ := (show Dt X.K Hf ρ (.tup l2) x from w)
      exact ⟨a, vs, rfl, hr.sub.sqT g2, fun pp hp => new_ans (d := .tup l2.reverse) hr hp (fun Hf' ex hqq => ⟨pp, _, rfl, SqT.of hqq, (Dts.mono ex (Pre.refl _) _ _ g3).reverse⟩) kk⟩
    · cases g
  · have eq : fUn gRev fe n E S = fUn gRevL fe n E S := by
      unfold fUn
      cases h : fe n E S with
      | stk => rfl
      | exc y S1 => rfl
      | ok d S1 =>
        cases d with
        | tup l => exact absurd ⟨l, S1, h⟩ hT
        | _ => rfl
    rw [eq] at p
    refine .inl (un_postF (r := fun x H Q => ∃ a xs, x = .ref a ∧ SqL X.K H a xs ∧ ∀ p, H p = none → Q (.ref p) (upd H p (.lst xs.reverse))) a2 (fun d x H Hf ρ S Q r hr w g kk => ?_) n E S σ H Hf ρ Q R p)
    unfold gRevL at g
    split at g
    · rename_i l2
      cases g
      obtain ⟨a, vs, rfl, _, g2, g3⟩ := w
      exact ⟨a, vs, rfl, SqL.of g2, fun pp hp => new_ans (d := .lst l2.reverse) hr hp (fun Hf' ex hqq => ⟨pp, _, rfl, hqq, (Dts.mono ex (Pre.refl _) _ _ g3).reverse⟩) kk⟩
    · cases g
end
end DL

end

section
set_option autoImplicit false
namespace L2
open PySem PySem.Spec PyProof.Rows
theorem tuple_mul1 (l : Addr) (items : Array Value) (n : Nat) (dd : Option Addr) (sl : Array (Option Value)) (u : Tok) :
    Meets (Builtin.«tuple.__mul__» ⟨[.ref l, .int 1 u], []⟩) (fun _ R s => s.heap.get? l = some { cls := .type "tuple", dict := dd, data := .seq items n, slots := sl } ∧ R (.ok (.ret (Value.ref l))) s) :=
  .of_wp fun prog w A R s h => by
    obtain ⟨hp, g, d, tk, os⟩ := s
    obtain ⟨hl, h⟩ := h
    have f1 := AutoSeq1.idx_int
    have c0 : (decide ((1 : Int) < -(2 ^ 63)) || decide ((1 : Int) ≥ 2 ^ 63)) = false := by decide
    have c1 : (items.isEmpty || (1 : Int) == 1) = true := by simp
    wp_walk using wpAny_loadPart' hl
    repeat (first
      | (refine wpAny_ite_false (decide_eq_false (by rw [c0]; exact Bool.false_ne_true)) ?_; wp_walk using wpAny_loadPart' hl)
      | (refine wpAny_ite_true (decide_eq_true c1) ?_; wp_walk using wpAny_loadPart' hl))
    exact ⟨_, rfl, h⟩
theorem tuple_mul0 (l : Addr) (items : Array Value) (n : Nat) (dd : Option Addr) (sl : Array (Option Value)) (x : Int) (u : Tok) (c0 : (decide (x < -(2 ^ 63)) || decide (x ≥ 2 ^ 63)) = false) (c1 : (items.isEmpty || x == 1) = false) (c2 : (decide (x ≤ 0) || items.isEmpty) = true) :
    Meets (Builtin.«tuple.__mul__» ⟨[.ref l, .int x u], []⟩) (fun _ R s => s.heap.get? l = some { cls := .type "tuple", dict := dd, data := .seq items n, slots := sl } ∧
      R (.ok (.ret (Value.ref s.heap.objs.size))) { s with heap := s.heap.push { cls := Value.type "tuple", data := Data.seq #[] }, toks := s.toks }) :=
  .of_wp fun prog w A R s h => by
    obtain ⟨hp, g, d, tk, os⟩ := s
    obtain ⟨hl, h⟩ := h
    have f1 := AutoSeq1.idx_int
    wp_walk using wpAny_loadPart' hl
    repeat (first
      | (refine wpAny_ite_false (decide_eq_false (by rw [c0]; exact Bool.false_ne_true)) ?_; wp_walk using wpAny_loadPart' hl)
      | (refine wpAny_ite_false (decide_eq_false (by rw [c1]; exact Bool.false_ne_true)) ?_; wp_walk using wpAny_loadPart' hl)
      | (refine wpAny_ite_true (decide_eq_true c2) ?_; wp_walk using wpAny_loadPart' hl)
      | (refine wpAny_ite_false (decide_eq_false (by decide)) ?_; wp_walk using wpAny_loadPart' hl))
    exact ⟨_, rfl, h⟩
def rRepTA (K : PySem.W.Frag) : R2 := fun x y H Q => ∃ l k xs, x = .ref l ∧ y = .int k ∧ SqT K H l xs ∧ xs ≠ [] ∧ -1000 ≤ k ∧ k ≤ 1000 ∧ xs.length ≤ 1000 ∧ (k = 1 → Q (.ref l) H) ∧ (k ≠ 1 → ∀ p, H p = none → Q (.ref p) (upd H p (.tup (List.replicate k.toNat xs).flatten)))
section
variable {X : Cx}
theorem op_repTA : OpR X (binaryOp .Mult) (rRepTA X.K) := by
  intro pins s σ H x y v u Q I rx ry h
  obtain ⟨l, k, xs, rfl, rfl, hT, hne, h0, h1, hz, q1, q2⟩ := h
  by_cases c : 2 ≤ k
  · exact op_repT pins s σ H (.ref l) (.int k) v u Q I rx ry ⟨l, k, xs, rfl, rfl, hT, hne, c, h1, hz, q2 (by omega)⟩
  · cases rx
    obtain ⟨t, rfl⟩ := ry
    obtain ⟨its, r, ⟨⟨cls, dd, data, sl⟩, ho, hc, n, hd⟩, hs⟩ := I.tuple hT
    simp only at hc hd
    subst hc hd
    have hle : its.length = xs.length := r.length.symm
    have hn : its ≠ [] := fun e => hne (by
      rw [e] at hle
      exact List.eq_nil_of_length_eq_zero hle.symm)
    have hi : its.toArray.isEmpty = false := by
      cases its with
      | nil => exact absurd rfl hn
      | cons a b => rfl
    by_cases c1 : k = 1
    · subst c1
      exact wpAny_binaryOp_repeat_ref (T := "tuple") (U := "int") (by decide) ⟨_, ho, rfl⟩ (fun s' => typeIs_int s' 1 t) noFill_tuple_mul F.fills_int_mul F.slot_int_rmul repeat_tuple F.slot_int_index.lookup
        (call_meets F.slot_int_rmul (typeIs_int s 1 t) F.entry_int_rmul (F.args_int_rmul_2 _ _) (int_rmul_tuple 1 t l its.toArray n dd sl)
          ⟨ho, rfl, ⟨_, ho, rfl⟩, call_meets F.slot_tuple_mul ⟨_, ho, rfl⟩ F.entry_tuple_mul (F.args_tuple_mul_2 _ _) (tuple_mul1 l its.toArray n dd sl t) ⟨ho, .ref l, H, I, rfl, q1 rfl⟩⟩)
    · have k0 : k ≤ 0 := by omega
      have e0 : (decide (k < -(2 ^ 63)) || decide (k ≥ 2 ^ 63)) = false := by
        rw [decide_eq_false (by omega), decide_eq_false (by omega)] <;> rfl
      have e1 : (its.toArray.isEmpty || k == 1) = false := by
        rw [hi, Bool.false_or]
        exact beq_eq_false_iff_ne.mpr c1
      have e2 : (decide (k ≤ 0) || its.toArray.isEmpty) = true := by
        rw [decide_eq_true k0]; rfl
      have ez : (List.replicate k.toNat xs).flatten = [] := by
        have : k.toNat = 0 := by omega
        rw [this]; rfl
      have q3 := q2 c1
      rw [ez] at q3
      refine wpAny_binaryOp_repeat_ref (T := "tuple") (U := "int") (by decide) ⟨_, ho, rfl⟩ (fun s' => typeIs_int s' k t) noFill_tuple_mul F.fills_int_mul F.slot_int_rmul repeat_tuple F.slot_int_index.lookup
        (call_meets F.slot_int_rmul (typeIs_int s k t) F.entry_int_rmul (F.args_int_rmul_2 _ _) (int_rmul_tuple k t l its.toArray n dd sl)
          ⟨ho, rfl, ⟨_, ho, rfl⟩, call_meets F.slot_tuple_mul ⟨_, ho, rfl⟩ F.entry_tuple_mul (F.args_tuple_mul_2 _ _) (tuple_mul0 l its.toArray n dd sl k t e0 e1 e2) ⟨ho, ?_⟩⟩)
      refine ⟨.ref s.heap.objs.size, _, I.laid (t' := s.toks) (o := .tup []) (fun b ob q => Heap.get?_push_of_some _ q) (Nat.le_refl _) ?_, rfl, q3 _ (I.hok.fresh (Nat.le_refl _))⟩
      exact ⟨by decide, _, .nil, IsTup.new _ _⟩
end
end L2
namespace DL
open PySem PySem.Spec PyProof.Rows L2
/-- (..) * k -/
def gRepT : D → D → Option D
  | .tup l, .int k => if decide (l ≠ []) && decide (-1000 ≤ k) && decide (k ≤ 1000) && decide (l.length ≤ 1000) then some (.tup (List.replicate k.toNat l).flatten) else none
  | _, _ => none
theorem opq_repT {X : Cx} : OpQ X (binaryOp .Mult) gRepT := by
  refine ⟨_, op_repTA, fun a b x y H Hf ρ S Q d hr wa wb e q => ?_⟩
  unfold gRepT at e
  split at e
  · rename_i l k
    split at e
    · rename_i hc
      simp only [Bool.and_eq_true, decide_eq_true_eq] at hc
      cases e
      obtain ⟨a, vs, rfl, h1, h2⟩ := (show Dt X.K Hf ρ (.tup l) x from wa)
      have wb : y = .int k := wb
      have hv : vs ≠ [] := fun z => hc.1.1.1 (by
        have := h2.length
        rw [z] at this
        exact List.eq_nil_of_length_eq_zero this)
      refine ⟨a, k, vs, rfl, wb, hr.sub.sqT h1, hv, hc.1.1.2, hc.1.2, by rw [← h2.length]; exact hc.2, fun e1 => ?_, fun _ pp hp => new_ans (d := .tup (List.replicate k.toNat l).flatten) hr hp (fun Hf' ex hqq => ⟨pp, _, rfl, SqT.of hqq, (Dts.mono ex (Pre.refl _) _ _ h2).rep _⟩) q⟩
      subst e1
      have : (List.replicate (1 : Int).toNat l).flatten = l := by
        show (List.replicate 1 l).flatten = l
        simp
      exact q _ H Hf ρ hr (Tr.refl _ _ _) (by rw [this]; exact ⟨a, vs, rfl, h1, h2⟩)
    · cases e
  · cases e
end DL

end

section
set_option autoImplicit false
set_option autoImplicit false
namespace DL
open PySem PySem.Spec PyProof.Rows L2

/-- as rfl, but simp shall not see it -/
theorem nrf {α : Sort _} {a b : α} (h : a = b := by rfl) : a = b := h
/-- what comes behind a statement; not looked into before its turn -/
def thenF (r : SRes) (s : FS) (n : Nat) : SRes := match r with
  | .nx E S => s n E S
  | r => r
@[simp] theorem then_nx {E : Env} {S : Store} {s : FS} {n : Nat} : thenF (.nx E S) s n = s n E S := nrf rfl
@[simp] theorem then_rt {d : D} {S : Store} {s : FS} {n : Nat} : thenF (.rt d S) s n = .rt d S := nrf rfl
@[simp] theorem then_ex {x : Exc} {E : Env} {S : Store} {s : FS} {n : Nat} : thenF (.ex x E S) s n = .ex x E S := nrf rfl
@[simp] theorem then_bk {E : Env} {S : Store} {s : FS} {n : Nat} : thenF (.bk E S) s n = .bk E S := nrf rfl
@[simp] theorem then_ct {E : Env} {S : Store} {s : FS} {n : Nat} : thenF (.ct E S) s n = .ct E S := nrf rfl
@[simp] theorem then_stk {s : FS} {n : Nat} : thenF .stk s n = .stk := nrf rfl
def ifF (r : Res Bool) (s t : FS) (n : Nat) (E : Env) : SRes := match r with
  | .ok true S1 => s n E S1
  | .ok false S1 => t n E S1
  | .exc x S1 => .ex x E S1
  | .stk => .stk
@[simp] theorem if_tt {E : Env} {S : Store} {s t : FS} {n : Nat} : ifF (.ok true S) s t n E = s n E S := nrf rfl
@[simp] theorem if_ff {E : Env} {S : Store} {s t : FS} {n : Nat} : ifF (.ok false S) s t n E = t n E S := nrf rfl
@[simp] theorem if_exc {x : Exc} {E : Env} {S : Store} {s t : FS} {n : Nat} : ifF (.exc x S) s t n E = .ex x E S := nrf rfl
def ifE {α : Type} (r : Res Bool) (f g : Nat → Env → Store → Res α) (n : Nat) (E : Env) : Res α := match r with
  | .ok true S1 => f n E S1
  | .ok false S1 => g n E S1
  | .exc x S1 => .exc x S1
  | .stk => .stk
@[simp] theorem ifE_tt {α : Type} {E : Env} {S : Store} {f g : Nat → Env → Store → Res α} {n : Nat} : ifE (.ok true S) f g n E = f n E S := nrf rfl
@[simp] theorem ifE_ff {α : Type} {E : Env} {S : Store} {f g : Nat → Env → Store → Res α} {n : Nat} : ifE (.ok false S) f g n E = g n E S := nrf rfl
@[simp] theorem ifE_exc {α : Type} {x : Exc} {E : Env} {S : Store} {f g : Nat → Env → Store → Res α} {n : Nat} : ifE (.exc x S) f g n E = .exc x S := nrf rfl
def asB (r : Res D) : Res Bool := match r with
  | .ok (.bl b) S => .ok b S
  | .exc x S => .exc x S
  | _ => .stk
@[simp] theorem asB_ok {b : Bool} {S : Store} : asB (.ok (.bl b) S) = .ok b S := nrf rfl
@[simp] theorem asB_exc {x : Exc} {S : Store} : asB (.exc x S) = .exc x S := nrf rfl
/-! ### how the pieces answer: for simp -/
section
variable {α β : Type} {n : Nat} {E : Env} {S : Store} {d e : D} {ds : List D} {f f1 f2 f3 : FE} {g : FA} {c c1 c2 : FT} {s s1 s2 : FS} {i j : Nat}
@[simp] theorem e_bind_ok (a : α) (S : Store) (k : α → Store → Res β) : Res.bind (.ok a S) k = k a S := nrf rfl
@[simp] theorem e_bind_exc (a : Exc) (S : Store) (k : α → Store → Res β) : Res.bind (.exc a S) k = .exc a S := nrf rfl
@[simp] theorem e_bind_stk (k : α → Store → Res β) : Res.bind .stk k = .stk := nrf rfl
@[simp] theorem e_bindN_ok (a : α) (S : Store) (k : α → Store → Res β) : Res.bindN (.ok a S) k = k a S := nrf rfl
@[simp] theorem e_C : fC d n E S = .ok d S := nrf rfl
theorem e_Var : fVar i n E S = (match E[i]? with | some (some (.fz d)) => .ok d S | _ => .stk) := rfl
theorem e_var_of (h : E[i]? = some (some (.fz d))) : fVar i n E S = .ok d S := by unfold fVar; rw [h]
@[simp] theorem e_Op {g : D → D → Option D} : fOp g f1 f2 n E S = (f1 n E S).bind fun a S1 => (f2 n E S1).bind fun b S2 => match g a b with | some d => .ok d S2 | none => .stk := nrf rfl
@[simp] theorem e_Un {g : D → Option D} : fUn g f n E S = (f n E S).bind fun a S1 => match g a with | some d => .ok d S1 | none => .stk := nrf rfl
@[simp] theorem e_CB {m : List D → Option D} : fCB m g n E S = (g n E S).bind fun a S1 => match m a with | some d => .ok d S1 | none => .stk := nrf rfl
@[simp] theorem e_Call {m : MF} : fCall m g n E S = (g n E S).bind fun a S1 => m a S1 := nrf rfl
@[simp] theorem e_Call0 {m : MF} : fCall0 m n E S = m [] S := nrf rfl
@[simp] theorem e_Nil : fNil n E S = .ok [] S := nrf rfl
@[simp] theorem e_Cons : fCons f g n E S = (f n E S).bind fun d S1 => (g n E S1).bind fun ds S2 => .ok (d :: ds) S2 := nrf rfl
@[simp] theorem e_Tup : fTup g n E S = (g n E S).bind fun ds S1 => if ds.length ≤ 1000 then .ok (.tup ds) S1 else .stk := nrf rfl
@[simp] theorem e_Lst : fLst g n E S = (g n E S).bind fun ds S1 => if ds.length ≤ 1000 then .ok (.lst ds) S1 else .stk := nrf rfl
@[simp] theorem e_And : fAnd f1 f2 n E S = ifE (asB (f1 n E S)) f2 (fC (.bl false)) n E := by
  unfold fAnd ifE Res.bind asB fC
  cases f1 n E S with
  | ok d S1 => cases d <;> first | rfl | (rename_i b; cases b <;> rfl)
  | _ => rfl
@[simp] theorem e_Or : fOr f1 f2 n E S = ifE (asB (f1 n E S)) (fC (.bl true)) f2 n E := by
  unfold fOr ifE Res.bind asB fC
  cases f1 n E S with
  | ok d S1 => cases d <;> first | rfl | (rename_i b; cases b <;> rfl)
  | _ => rfl
@[simp] theorem e_Not : fNot f n E S = (f n E S).bind fun d S1 => match d with
  | .bl b => .ok (.bl (!b)) S1
  | _ => .stk := nrf rfl
@[simp] theorem e_Bool : fBool f n E S = asB (f n E S) := by
  unfold fBool Res.bind asB
  cases f n E S with
  | ok d S1 => cases d <;> rfl
  | _ => rfl
@[simp] theorem e_Tru : fTru f n E S = (f n E S).bind fun d S1 => match truD d with
  | some b => .ok b S1
  | none => .stk := nrf rfl
@[simp] theorem e_NotT : fNotT c n E S = (c n E S).bind fun b S1 => .ok (!b) S1 := nrf rfl
@[simp] theorem e_AndT : fAndT c1 c2 n E S = ifE (c1 n E S) c2 (fun _ _ S => .ok false S) n E := by
  unfold fAndT ifE Res.bind
  cases c1 n E S with
  | ok b S1 => cases b <;> rfl
  | _ => rfl
@[simp] theorem e_OrT : fOrT c1 c2 n E S = ifE (c1 n E S) (fun _ _ S => .ok true S) c2 n E := by
  unfold fOrT ifE Res.bind
  cases c1 n E S with
  | ok b S1 => cases b <;> rfl
  | _ => rfl
@[simp] theorem e_If : fIf c f1 f2 n E S = ifE (c n E S) f1 f2 n E := by
  unfold fIf ifE Res.bind
  cases c n E S with
  | ok b S1 => cases b <;> rfl
  | _ => rfl
@[simp] theorem e_Chain {g g' : D → D → Option D} : fChain g g' f1 f2 f3 n E S = (f1 n E S).bind fun a S1 => (f2 n E S1).bind fun b S2 => match g a b with
  | some (.bl true) => (f3 n E S2).bind fun c S3 => match g' b c with
    | some d => .ok d S3
    | none => .stk
  | some (.bl false) => .ok (.bl false) S2
  | _ => .stk := nrf rfl
@[simp] theorem e_Yes : fYes n E S = .ok true S := nrf rfl
@[simp] theorem e_Skip : fSkip n E S = .nx E S := nrf rfl
@[simp] theorem e_Seq : fSeq s1 s2 n E S = thenF (s1 n E S) s2 n := nrf rfl
@[simp] theorem e_Frz : fFrz i s n E S = s n (frz E i) S := nrf rfl
@[simp] theorem e_Set : fSet i f n E S = (match f n E S with
  | .ok d S1 => .nx (E.set i (some (.fz d))) S1
  | .exc x S1 => .ex x E S1
  | .stk => .stk) := nrf rfl
@[simp] theorem e_SetO : fSetO i f n E S = (match f n E S with
  | .ok d S1 => .nx (E.set i (some (.own d))) S1
  | .exc x S1 => .ex x E S1
  | .stk => .stk) := nrf rfl
@[simp] theorem e_Ret : fRet f n E S = (match f n E S with
  | .ok d S1 => .rt d S1
  | .exc x S1 => .ex x E S1
  | .stk => .stk) := nrf rfl
@[simp] theorem e_Exp : fExp f n E S = (match f n E S with
  | .ok _ S1 => .nx E S1
  | .exc x S1 => .ex x E S1
  | .stk => .stk) := nrf rfl
@[simp] theorem e_IfS : fIfS c s1 s2 n E S = ifF (c n E S) s1 s2 n E := nrf rfl
@[simp] theorem e_Raise {C : Str} : fRaise C n E S = .ex ⟨C, none⟩ E S := nrf rfl
@[simp] theorem e_Brk : fBrk n E S = .bk E S := nrf rfl
@[simp] theorem e_Cnt : fCnt n E S = .ct E S := nrf rfl
@[simp] theorem e_gN : gN i d E = some (E.set i (some (.fz d))) := nrf rfl
@[simp] theorem e_gT_t {gs : Tgts} {l : List D} : gT gs (.tup l) E = gs l E := nrf rfl
@[simp] theorem e_gNils : gNils [] E = some E := nrf rfl
@[simp] theorem e_gConss {t : Tgt} {gs : Tgts} {l : List D} : gConss t gs (d :: l) E = (t d E).bind (gs l) := nrf rfl
@[simp] theorem e_Asg {t : Tgt} : fAsg t f n E S = (match f n E S with
  | .ok d S1 => match t d E with
    | some E' => .nx E' S1
    | none => .stk
  | .exc x S1 => .ex x E S1
  | .stk => .stk) := nrf rfl
@[simp] theorem e_For {t : Tgt} : fFor g t s n E S = (match g n E S with
  | .ok ds S1 => forL t (s n) ds E S1
  | .exc x S1 => .ex x E S1
  | .stk => .stk) := nrf rfl
@[simp] theorem e_forL_nil {t : Tgt} {b : Env → Store → SRes} : forL t b [] E S = .nx E S := nrf rfl
theorem e_forL_cons {t : Tgt} {b : Env → Store → SRes} {l : List D} : forL t b (d :: l) E S = (match t d E with
    | none => .stk
    | some E1 => match b E1 S with
      | .nx E2 S2 => forL t b l E2 S2
      | .ct E2 S2 => forL t b l E2 S2
      | .bk E2 S2 => .nx E2 S2
      | r => r) := rfl
@[simp] theorem e_While : fWhile c s n E S = whileL (c n) (s n) n E S := nrf rfl
@[simp] theorem e_Lift {h : List D → Option (List D)} : fLift h g n E S = (g n E S).bind fun ds S1 => match h ds with
  | some l => .ok l S1
  | none => .stk := nrf rfl
@[simp] theorem e_body_nx : bodyR (.nx E S) = .ok .non S := nrf rfl
@[simp] theorem e_body_rt : bodyR (.rt d S) = .ok d S := nrf rfl
@[simp] theorem e_body_ex {x : Exc} : bodyR (.ex x E S) = .exc x S := nrf rfl
@[simp] theorem e_body_stk : bodyR .stk = .stk := nrf rfl
@[simp] theorem e_body_bk : bodyR (.bk E S) = .stk := nrf rfl
@[simp] theorem e_body_ct : bodyR (.ct E S) = .stk := nrf rfl
theorem e_Par2 : fPar2 i j g n E S = (match g n E S with
  | .ok [a, b] S1 => .nx ((E.set i (some (.fz a))).set j (some (.fz b))) S1
  | .ok _ _ => .stk
  | .exc x S1 => .ex x E S1
  | .stk => .stk) := rfl
end

theorem e_Par3 {n : Nat} {E : Env} {S : Store} {g : FA} {i j k : Nat} : fPar3 i j k g n E S = (match g n E S with
  | .ok [a, b, c] S1 => .nx (((E.set i (some (.fz a))).set j (some (.fz b))).set k (some (.fz c))) S1
  | .ok _ _ => .stk
  | .exc x S1 => .ex x E S1
  | .stk => .stk) := rfl
@[simp] theorem e_par2 {n : Nat} {E : Env} {S : Store} {f1 f2 : FE} {i j : Nat} : fPar2 i j (fCons f1 (fCons f2 fNil)) n E S = (match f1 n E S with
  | .ok a S1 => match f2 n E S1 with
    | .ok b S2 => .nx ((E.set i (some (.fz a))).set j (some (.fz b))) S2
    | .exc x S1 => .ex x E S1
    | .stk => .stk
  | .exc x S1 => .ex x E S1
  | .stk => .stk) := by
  unfold fPar2 fCons fNil
  cases f1 n E S with
  | ok a S1 => cases h : f2 n E S1 <;> simp [h]
  | _ => rfl
@[simp] theorem e_par3 {n : Nat} {E : Env} {S : Store} {f1 f2 f3 : FE} {i j k : Nat} : fPar3 i j k (fCons f1 (fCons f2 (fCons f3 fNil))) n E S = (match f1 n E S with
  | .ok a S1 => match f2 n E S1 with
    | .ok b S2 => match f3 n E S2 with
      | .ok c S3 => .nx (((E.set i (some (.fz a))).set j (some (.fz b))).set k (some (.fz c))) S3
      | .exc x S1 => .ex x E S1
      | .stk => .stk
    | .exc x S1 => .ex x E S1
    | .stk => .stk
  | .exc x S1 => .ex x E S1
  | .stk => .stk) := by
  unfold fPar3 fCons fNil
  cases f1 n E S with
  | ok a S1 =>
    cases h : f2 n E S1 with
    | ok b S2 => cases h2 : f3 n E S2 <;> simp [h, h2]
    | _ => simp [h]
  | _ => rfl
section
variable {n : Nat} {E : Env} {S : Store} {d a b : D} {i j : Int} {l m : List D} {x y : Bool} {f : FE}
@[simp] theorem e_v0 {v : Nat} : fVar v n E S = (match E[v]? with | some (some (.fz d)) => .ok d S | _ => .stk) := nrf rfl
@[simp] theorem e_r0 {v : Nat} : fRd v n E S = (match E[v]? with | some (some (.fz d)) => .ok d S | some (some (.own d)) => .ok d S | _ => .stk) := nrf rfl
@[simp] theorem o_add : gAdd (.int i) (.int j) = some (.int (i + j)) := nrf rfl
@[simp] theorem o_sub : gSub (.int i) (.int j) = some (.int (i - j)) := nrf rfl
@[simp] theorem o_lt : gLt (.int i) (.int j) = some (.bl (decide (i < j))) := nrf rfl
@[simp] theorem o_le : gLe (.int i) (.int j) = some (.bl (decide (i ≤ j))) := nrf rfl
@[simp] theorem o_gt : gGt (.int i) (.int j) = some (.bl (decide (j < i))) := nrf rfl
@[simp] theorem o_ge : gGe (.int i) (.int j) = some (.bl (decide (j ≤ i))) := nrf rfl
@[simp] theorem o_eqi : gEq (.int i) (.int j) = some (.bl (decide (i = j))) := nrf rfl
@[simp] theorem o_eqb : gEq (.bl x) (.bl y) = some (.bl (decide (x = y))) := nrf rfl
@[simp] theorem o_nei : gNe (.int i) (.int j) = some (.bl (!decide (i = j))) := nrf rfl
@[simp] theorem o_neg : gNeg (.int i) = some (.int (-i)) := nrf rfl
theorem o_addL {l m : List D} (h : l.length + m.length ≤ sizeLine) : gAdd (.lst l) (.lst m) = some (.lst (l ++ m)) := by
  simp only [gAdd]; rw [if_pos h]
theorem o_addT {l m : List D} (h : l.length + m.length ≤ sizeLine) : gAdd (.tup l) (.tup m) = some (.tup (l ++ m)) := by
  simp only [gAdd]; rw [if_pos h]
theorem mulOk_l (h : i.natAbs < 2 ^ 64) : mulOk i j = true := by unfold mulOk; simp only [h, decide_true, Bool.true_or]
theorem mulOk_r (h : j.natAbs < 2 ^ 64) : mulOk i j = true := by unfold mulOk; simp only [h, decide_true, Bool.true_or, Bool.or_true]
theorem o_mul (h : mulOk i j = true) : gMul (.int i) (.int j) = some (.int (i * j)) := by
  show iOp mulOk (fun i j => .int (i * j)) (.int i) (.int j) = _
  unfold iOp; simp [h]
theorem o_mod (h : 0 < j) : gMod (.int i) (.int j) = some (.int (i % j)) := by
  show iOp _ _ (.int i) (.int j) = _
  unfold iOp; simp [h]
theorem o_div (h : 0 < j) (g : j.natAbs.log2 < 9000) : gDiv (.int i) (.int j) = some (.int (i / j)) := by
  show iOp _ _ (.int i) (.int j) = _
  unfold iOp; simp [h, g]
theorem o_pow (h : 0 ≤ j) (h2 : j ≤ 1000000) (g : i.natAbs < 2 ^ 64) : gPow (.int i) (.int j) = some (.int (i ^ j.toNat)) := by
  show iOp _ _ (.int i) (.int j) = _
  unfold iOp; simp only [h, h2, g, decide_true, Bool.and_self, if_pos]
/-- log2 of what is small -/
theorem log2_le {a k : Nat} (h : a < 2 ^ k) : a.log2 ≤ k := by
  by_cases h0 : a = 0
  · subst h0; simp
  · exact Nat.le_of_lt ((Nat.log2_lt h0).mpr h)
theorem mulOk_s {k r : Nat} (h : i.natAbs < 2 ^ k) (g : j.natAbs < 2 ^ r) (s : k + r < 1000000) : mulOk i j = true := by
  unfold mulOk
  have := log2_le h
  have := log2_le g
  have : i.natAbs.log2 + j.natAbs.log2 < 1000000 := by omega
  simp [this]
end
/-! ### loops -/
/-- a while without a break: what I says before each turn, m grows less -/
theorem while_rule {c : Env → Store → Res Bool} {b : Env → Store → SRes} {Q : Env → Store → Prop} (I : Nat → Env → Store → Prop)
    (h : ∀ m E S, I m E S → (∃ S', c E S = .ok false S' ∧ Q E S') ∨ ∃ S1 E2 S2 m', c E S = .ok true S1 ∧ b E S1 = .nx E2 S2 ∧ m' < m ∧ I m' E2 S2) :
    ∀ (m n : Nat) (E : Env) (S : Store), m < n → I m E S → ∃ E' S', whileL c b n E S = .nx E' S' ∧ Q E' S' := by
  intro m
  induction m using Nat.strongRecOn with
  | ind m ih =>
    intro n E S hn hI
    cases n with
    | zero => omega
    | succ n =>
      rcases h m E S hI with ⟨S', h1, h2⟩ | ⟨S1, E2, S2, m', h1, h2, h3, h4⟩
      · exact ⟨E, S', by simp only [whileL, h1], h2⟩
      · obtain ⟨E', S', h5, h6⟩ := ih m' h3 n E2 S2 (by omega) h4
        exact ⟨E', S', by simp only [whileL, h1, h2, h5], h6⟩
/-- a for without an end ahead of time -/
theorem for_rule {t : Tgt} {b : Env → Store → SRes} (I : List D → Env → Store → Prop)
    (h : ∀ d l E S, I (d :: l) E S → ∃ E1 E2 S2, t d E = some E1 ∧ (b E1 S = .nx E2 S2 ∨ b E1 S = .ct E2 S2) ∧ I l E2 S2) :
    ∀ (l : List D) (E : Env) (S : Store), I l E S → ∃ E' S', forL t b l E S = .nx E' S' ∧ I [] E' S'
  | [], E, S, hI => ⟨E, S, rfl, hI⟩
  | d :: l, E, S, hI => by
    obtain ⟨E1, E2, S2, h1, h2, h3⟩ := h d l E S hI
    obtain ⟨E', S', h4, h5⟩ := for_rule I h l E2 S2 h3
    refine ⟨E', S', ?_, h5⟩
    rcases h2 with h2 | h2 <;> simp only [forL, h1, h2, h4]
end DL

end

section
set_option autoImplicit false
set_option autoImplicit false
namespace DL
open PySem PySem.Spec PyProof.Rows L2
/-! ### plain arithmetic -/
theorem mulm {a b g : Int} : (a % g) * (b % g) % g = a * b % g := (Int.mul_emod a b g).symm
theorem mulml {a b g : Int} : (a % g) * b % g = a * b % g := by rw [Int.mul_emod, Int.emod_emod, ← Int.mul_emod]
theorem mulmr {a b g : Int} : a * (b % g) % g = a * b % g := by rw [Int.mul_emod, Int.emod_emod, ← Int.mul_emod]
theorem powm {a g : Int} : ∀ k : Nat, (a % g) ^ k % g = a ^ k % g
  | 0 => by rw [Int.pow_zero, Int.pow_zero]
  | k + 1 => by rw [Int.pow_succ, Int.pow_succ, Int.mul_emod, powm k, Int.emod_emod, ← Int.mul_emod]
theorem pow_two_mul (h : Int) (k : Nat) : h ^ (2 * k) = (h * h) ^ k := by rw [Int.pow_mul]; congr 1; rw [Int.pow_succ, Int.pow_succ, Int.pow_zero, Int.one_mul]
/-- one turn of the power by bits -/
theorem pow_turn {f h g : Int} {t : Nat} : (if (t : Int) % 2 = 1 then f * h % g else f) * (h * h % g) ^ (t / 2) % g = f * h ^ t % g := by
  rw [Int.mul_emod, powm, ← Int.mul_emod]
  by_cases e : (t : Int) % 2 = 1
  · rw [if_pos e, mulml, ← pow_two_mul, Int.mul_assoc, ← Int.pow_succ']
    have : 2 * (t / 2) + 1 = t := by omega
    rw [this]
  · rw [if_neg e, ← pow_two_mul]
    have : 2 * (t / 2) = t := by omega
    rw [this]
theorem nat_lt_of {a : Int} {k : Nat} (h0 : 0 ≤ a) (h : a < 2 ^ k) : a.natAbs < 2 ^ k := by
  have : (a.natAbs : Int) = a := by omega
  have e : ((2 ^ k : Nat) : Int) = (2 : Int) ^ k := by rw [Int.natCast_pow]; rfl
  omega
theorem emod_abs {a g : Int} {k : Nat} (hg : 0 < g) (h : g.natAbs < 2 ^ k) : (a % g).natAbs < 2 ^ k := by
  have := Int.emod_nonneg a (by omega : g ≠ 0)
  have := Int.emod_lt_of_pos a hg
  omega
/-- a number is an odd one times a power of two, in one way -/
theorem two_part : ∀ {p q : Nat} {a b : Int}, a % 2 = 1 → b % 2 = 1 → a * 2 ^ p = b * 2 ^ q → p = q ∧ a = b
  | 0, 0, a, b, _, _, e => ⟨rfl, by simpa using e⟩
  | 0, q + 1, a, b, ha, _, e => by
    exfalso
    rw [Int.pow_zero, Int.mul_one, Int.pow_succ, ← Int.mul_assoc] at e
    omega
  | p + 1, 0, a, b, _, hb, e => by
    exfalso
    rw [Int.pow_zero, Int.mul_one, Int.pow_succ, ← Int.mul_assoc] at e
    omega
  | p + 1, q + 1, a, b, ha, hb, e => by
    rw [Int.pow_succ, Int.pow_succ, ← Int.mul_assoc, ← Int.mul_assoc] at e
    obtain ⟨h1, h2⟩ := two_part ha hb (by omega : a * 2 ^ p = b * 2 ^ q)
    exact ⟨by rw [h1], h2⟩
theorem pow2_mono {a b : Nat} (h : a ≤ b) : (2 : Int) ^ a ≤ 2 ^ b := by
  have := Nat.pow_le_pow_right (n := 2) (by decide) h
  have e : ∀ k, ((2 ^ k : Nat) : Int) = (2 : Int) ^ k := fun k => by rw [Int.natCast_pow]; rfl
  rw [← e, ← e]; omega
theorem pow2_pos (a : Nat) : (0 : Int) < 2 ^ a := by
  have := pow2_mono (Nat.zero_le a); simp at this; omega
end DL

end

section
set_option autoImplicit false
set_option autoImplicit false
namespace DL
open PySem PySem.Spec PyProof.Rows L2
/-! ### walks by ints, comprehensions, first finds -/
def rngI (i c : Int) (n : Nat) : List Int := (List.range n).map fun k : Nat => i + (k : Int) * c
theorem rngC_eq {i c : Int} {n : Nat} : rngC i c n = (rngI i c n).map D.int := by
  unfold rngC rngI; rw [List.map_map]; rfl
theorem rngD_eq {i : Int} {n : Nat} : rngD i n = (rngI i 1 n).map D.int := by
  unfold rngD rngI; rw [List.map_map]
  apply List.map_congr_left
  intro x _
  simp
theorem mem_rngI {i c x : Int} {n : Nat} : x ∈ rngI i c n ↔ ∃ k : Nat, k < n ∧ x = i + (k : Int) * c := by
  unfold rngI
  simp only [List.mem_map, List.mem_range]
  exact ⟨fun ⟨k, h, e⟩ => ⟨k, h, e.symm⟩, fun ⟨k, h, e⟩ => ⟨k, h, e.symm⟩⟩
theorem rngI_length {i c : Int} {n : Nat} : (rngI i c n).length = n := by simp [rngI]
theorem rngI_asc {i c : Int} {n : Nat} (hc : 0 < c) : (rngI i c n).Pairwise (· < ·) := by
  unfold rngI
  rw [List.pairwise_map]
  refine List.Pairwise.imp ?_ (List.pairwise_lt_range (n := n))
  intro a b h
  have : (a : Int) * c < (b : Int) * c := Int.mul_lt_mul_of_pos_right (by omega) hc
  omega
/-- how many items a range has -/
def rsz (i j c : Int) : Nat := (if i < j then (j - i - 1) / c + 1 else 0).toNat
theorem rng1_ok {j : Int} (h0 : -(2 ^ 62) ≤ j) (h1 : j < 2 ^ 62) : rng1? [.int j] = some ((rngI 0 1 j.toNat).map D.int) := by
  have : smallR j = true := by unfold smallR; simp; omega
  simp [rng1?, this, rngD_eq]
theorem rng2_ok {i j : Int} (g0 : -(2 ^ 62) ≤ i) (g1 : i < 2 ^ 62) (h0 : -(2 ^ 62) ≤ j) (h1 : j < 2 ^ 62) : rng2? [.int i, .int j] = some ((rngI i 1 (j - i).toNat).map D.int) := by
  have a : smallR j = true := by unfold smallR; simp; omega
  have b : smallR i = true := by unfold smallR; simp; omega
  simp [rng2?, a, b, rngD_eq]
theorem rng3_ok {i j c : Int} (c0 : 0 < c) (c1 : c < 1073741824) (g0 : -(2 ^ 62) < i) (g1 : i < 2 ^ 62) (h0 : -(2 ^ 62) < j) (h1 : j < 2 ^ 62) : rng3? [.int i, .int j, .int c] = some ((rngI i c (rsz i j c)).map D.int) := by
  have hs : Builtin.Range.rangeSize i j c = if i < j then (j - i - 1) / c + 1 else 0 := by
    unfold Builtin.Range.rangeSize; rw [if_pos (by omega)]
  have e0 : 0 ≤ (if i < j then (j - i - 1) / c + 1 else 0) := by
    split
    · have := Int.ediv_nonneg (a := j - i - 1) (b := c) (by omega) (by omega); omega
    · omega
  have e1 : (if i < j then (j - i - 1) / c + 1 else 0) < 2 ^ 63 := by
    split
    · have : (j - i - 1) / c ≤ j - i - 1 := Int.ediv_le_self _ (by omega)
      omega
    · omega
  have sm : Builtin.Range.small i j c = true := by
    have z : ∀ q : Int, -(2 ^ 63) ≤ q → q < 2 ^ 63 → Builtin.Range.rangeFitsLong q = true := fun q a b => by
      unfold Builtin.Range.rangeFitsLong; simp only [Bool.and_eq_true, decide_eq_true_eq]; exact ⟨a, b⟩
    unfold Builtin.Range.small
    rw [hs, z i (by omega) (by omega), z j (by omega) (by omega), z c (by omega) (by omega), z _ (by omega) e1]
    rw [if_pos (show c > 0 by omega), z (j + (c - 1)) (by omega) (by omega)]
    simp
  have s0 : 0 ≤ Builtin.Range.rangeSize i j c := by rw [hs]; exact e0
  have n1 : c ≠ 0 := by omega
  have n2 : c.natAbs < 1073741824 := by omega
  have r : rng3? [.int i, .int j, .int c] = some (rngC i c (Builtin.Range.rangeSize i j c).toNat) := by
    unfold rng3?
    simp only [sm, s0, n1, n2, ne_eq, not_false_eq_true, decide_true, Bool.and_self, if_true]
  rw [r, rngC_eq, hs]
  rfl
theorem lcL_int {g : Tgt} {c : Env → Store → Res Bool} {e : Env → Store → Res D} {E : Env} {S : Store} (P : Int → Bool) (fv : Int → D) : ∀ ns : List Int,
    (∀ n ∈ ns, ∃ E1, g (.int n) E = some E1 ∧ c E1 S = .ok (P n) S ∧ (P n = true → e E1 S = .ok (fv n) S)) → lcL g c e (ns.map D.int) E S = .ok ((ns.filter P).map fv) S
  | [], _ => rfl
  | n :: ns, h => by
    obtain ⟨E1, h1, h2, h3⟩ := h n (List.mem_cons_self ..)
    have ih := lcL_int P fv ns fun x hx => h x (List.mem_cons_of_mem _ hx)
    simp only [List.map_cons, lcL, h1, h2, e_bindN_ok]
    cases hp : P n with
    | true => simp only [h3 hp, e_bindN_ok, ih, List.filter_cons_of_pos hp, List.map_cons]
    | false => simp only [ih]; rw [List.filter_cons_of_neg (by simp [hp])]
theorem find_first {l : List Int} {P : Int → Bool} {d : Int} (hl : l.Pairwise (· < ·)) (hd : d ∈ l) (hp : P d = true) (hn : ∀ x ∈ l, x < d → P x = false) : l.find? P = some d := by
  induction l with
  | nil => cases hd
  | cons a l ih =>
    rw [List.pairwise_cons] at hl
    rcases List.mem_cons.mp hd with rfl | hd
    · rw [List.find?_cons_of_pos hp]
    · have := hn a (List.mem_cons_self ..) (hl.1 d hd)
      rw [List.find?_cons_of_neg (by rw [this]; simp)]
      exact ih hl.2 hd fun x hx => hn x (List.mem_cons_of_mem _ hx)
theorem head_filter {l : List Int} {P : Int → Bool} : (l.filter P).head? = l.find? P := by
  rw [← List.head?_filter]
/-- none or an int -/
def optD : Option Int → D
  | none => .non
  | some i => .int i
theorem e_forL_map {t : Tgt} {b : Env → Store → SRes} {E : Env} {S : Store} {n : Int} {ns : List Int} : forL t b ((n :: ns).map D.int) E S = (match t (.int n) E with
    | none => .stk
    | some E1 => match b E1 S with
      | .nx E2 S2 => forL t b (ns.map D.int) E2 S2
      | .ct E2 S2 => forL t b (ns.map D.int) E2 S2
      | .bk E2 S2 => .nx E2 S2
      | r => r) := rfl
/-- the last of a list -/
theorem ix_last {l : List D} {d : D} : gIx (.lst (l ++ [d])) (.int (-1)) = some d := by
  show atI (l ++ [d]) (-1) = some d
  have h1 : ixN (l ++ [d]).length (-1) = some l.length := by
    unfold ixN
    rw [if_neg (by omega), List.length_append, List.length_singleton, if_pos (by omega)]
    congr 1; omega
  unfold atI
  rw [h1]
  simp
theorem mem_rsz {b j s x : Int} (hs : 0 < s) : x ∈ rngI b s (rsz b j s) ↔ ∃ k : Nat, x = b + (k : Int) * s ∧ x < j := by
  rw [mem_rngI]
  have key : ∀ k : Nat, k < rsz b j s ↔ b + (k : Int) * s < j := fun k => by
    unfold rsz
    have h1 : (k : Int) ≤ (j - b - 1) / s ↔ (k : Int) * s ≤ j - b - 1 := Int.le_ediv_iff_mul_le hs
    have k0 : 0 ≤ (k : Int) * s := Int.mul_nonneg (by omega) (by omega)
    split
    · rename_i c
      have h2 := Int.ediv_nonneg (a := j - b - 1) (b := s) (by omega) (by omega)
      constructor
      · intro h
        have := h1.mp (by omega)
        omega
      · intro h
        have := h1.mpr (by omega)
        omega
    · rename_i c
      constructor
      · intro h; simp at h
      · intro h; omega
  constructor
  · rintro ⟨k, h, e⟩
    exact ⟨k, e, by rw [e]; exact (key k).mp h⟩
  · rintro ⟨k, e, h⟩
    exact ⟨k, (key k).mpr (by rw [← e]; exact h), e⟩
@[simp] theorem o_neb {x y : Bool} : gNe (.bl x) (.bl y) = some (.bl (!decide (x = y))) := nrf rfl
theorem in_ints {i : Int} {ns : List Int} : gIn (.int i) (.tup (ns.map D.int)) = some (.bl (ns.any fun n => n == i)) := by
  have h : (ns.map D.int).all flatD = true := by simp [List.all_map, flatD]
  simp [gIn, gInB, inF, flatD, List.any_map, Function.comp_def, eqF, List.all_map]
/-! ### more pieces -/
section
variable {n : Nat} {E : Env} {S : Store} {f : FE} {g : FM}
@[simp] theorem e_fmNil : fmNil n E S = .ok [] S := nrf rfl
@[simp] theorem e_fmFz : fmFz f g n E S = (f n E S).bind fun d S1 => (g n E S1).bind fun ds S2 => .ok (.fz d :: ds) S2 := nrf rfl
@[simp] theorem e_fmOwn : fmOwn f g n E S = (f n E S).bind fun d S1 => (g n E S1).bind fun ds S2 => .ok (.own d :: ds) S2 := nrf rfl
@[simp] theorem e_Pm2 {i j : Nat} : fPm2 i j g n E S = (match g n E S with
  | .ok [a, b] S1 => .nx ((E.set i (some a)).set j (some b)) S1
  | .ok _ _ => .stk
  | .exc x S1 => .ex x E S1
  | .stk => .stk) := nrf rfl
@[simp] theorem e_Pm3 {i j k : Nat} : fPm3 i j k g n E S = (match g n E S with
  | .ok [a, b, c] S1 => .nx (((E.set i (some a)).set j (some b)).set k (some c)) S1
  | .ok _ _ => .stk
  | .exc x S1 => .ex x E S1
  | .stk => .stk) := nrf rfl
end
/-! ### fast powers -/
def pmod (g : Int) : Nat → Int → Int → Nat → Int
  | 0, _, _, _ => -1
  | k + 1, d, e, t => if t = 0 then d % g else pmod g k (if (t : Int) % 2 = 1 then d * e % g else d) (e * e % g) (t / 2)
theorem pmod_eq {g : Int} : ∀ (k : Nat) (d e : Int) (t : Nat), t < 2 ^ k → pmod g (k + 1) d e t = d * e ^ t % g
  | 0, d, e, t, h => by
    have : t = 0 := by simp at h; exact h
    subst this; simp [pmod]
  | k + 1, d, e, t, h => by
    by_cases h0 : t = 0
    · subst h0; simp [pmod]
    · rw [pmod, if_neg h0, pmod_eq k _ _ _ (by rw [Nat.pow_succ] at h; omega), pow_turn]
theorem sq_not {a F : Int} (h1 : a * a < F) (h2 : F < (a + 1) * (a + 1)) (ha : 0 ≤ a) (x : Int) (hx : 0 ≤ x) : x * x ≠ F := fun e => by
  rcases Int.lt_or_le a x with h | h
  · have : (a + 1) * (a + 1) ≤ x * x := Int.mul_le_mul (by omega) (by omega) (by omega) hx
    omega
  · have : x * x ≤ a * a := Int.mul_le_mul h h hx ha
    omega
/-! ### first divisors -/
def fd (n : Int) : Nat → Int → Option Int
  | 0, _ => none
  | k + 1, d => if n % d = 0 then some d else fd n k (d + 1)
theorem fd_none {n : Int} : ∀ {k : Nat} {d : Int}, fd n k d = none → ∀ x, d ≤ x → x < d + k → n % x ≠ 0
  | 0, d, h, x, h1, h2 => by omega
  | k + 1, d, h, x, h1, h2 => by
    unfold fd at h
    by_cases c : n % d = 0
    · rw [if_pos c] at h; cases h
    · rw [if_neg c] at h
      by_cases e : x = d
      · rw [e]; exact c
      · exact fd_none h x (by omega) (by omega)
theorem fd_some {n : Int} : ∀ {k : Nat} {d e : Int}, fd n k d = some e → d ≤ e ∧ e < d + k ∧ n % e = 0 ∧ ∀ x, d ≤ x → x < e → n % x ≠ 0
  | 0, d, e, h => by cases h
  | k + 1, d, e, h => by
    unfold fd at h
    by_cases c : n % d = 0
    · rw [if_pos c] at h; cases h
      exact ⟨by omega, by omega, c, fun x h1 h2 => by omega⟩
    · rw [if_neg c] at h
      obtain ⟨h1, h2, h3, h4⟩ := fd_some h
      refine ⟨by omega, by omega, h3, fun x g1 g2 => ?_⟩
      by_cases e : x = d
      · rw [e]; exact c
      · exact h4 x (by omega) g2
def mn (a b : Int) : Int := if b < a then b else a
/-- the first divisor in a row of steps -/
def ldb (n b s m : Int) : Option Int := (rngI b s (rsz b (mn m (n - 1) + 1) s)).find? fun d => n % d == 0
theorem ldb_eq {n b s m d0 : Int} (hb : 2 ≤ b) (hs : 0 < s) (h1 : d0 < n) (h2 : n % d0 = 0) (h3 : ∀ x, 2 ≤ x → x < d0 → n % x ≠ 0) (h4 : ∃ k : Nat, d0 = b + (k : Int) * s) : ldb n b s m = if d0 ≤ m then some d0 else none := by
  unfold ldb
  by_cases c : d0 ≤ m
  · rw [if_pos c]
    refine find_first (rngI_asc hs) ((mem_rsz hs).mpr ?_) (by simp [h2]) fun x hx hl => ?_
    · obtain ⟨k, e⟩ := h4
      exact ⟨k, e, by unfold mn; split <;> omega⟩
    · obtain ⟨k, e, _⟩ := (mem_rsz hs).mp hx
      have : 0 ≤ (k : Int) * s := Int.mul_nonneg (by omega) (by omega)
      have := h3 x (by omega) hl
      simp [this]
  · rw [if_neg c, List.find?_eq_none]
    intro x hx
    obtain ⟨k, e, h⟩ := (mem_rsz hs).mp hx
    have : 0 ≤ (k : Int) * s := Int.mul_nonneg (by omega) (by omega)
    have := h3 x (by omega) (by unfold mn at h; split at h <;> omega)
    simp [this]
theorem ldb_none {n b s m : Int} (hb : 2 ≤ b) (hs : 0 < s) (h3 : ∀ x, 2 ≤ x → x ≤ m → x < n → n % x ≠ 0) : ldb n b s m = none := by
  unfold ldb
  rw [List.find?_eq_none]
  intro x hx
  obtain ⟨k, e, h⟩ := (mem_rsz hs).mp hx
  have : 0 ≤ (k : Int) * s := Int.mul_nonneg (by omega) (by omega)
  have := h3 x (by omega) (by unfold mn at h; split at h <;> omega) (by unfold mn at h; split at h <;> omega)
  simp [this]
/-- the same divisor is found among all and in the row of steps -/
def okDiv (n s : Int) : Bool := match fd n 2999 2 with
  | none => true
  | some e => e == n || e % s == 1
theorem ldb_same {n s m : Int} (h : okDiv n s = true) (hs : 1 < s) (hm : m ≤ 3000) (hn : 2 ≤ n) : ldb n (s + 1) s m = ldb n 2 1 m ∧ ∀ e, ldb n 2 1 m = some e → fd n 2999 2 = some e ∧ e ≠ n := by
  unfold okDiv at h
  split at h
  · rename_i e
    have := fd_none e
    rw [ldb_none (by omega) (by omega) fun x a b c => this x a (by omega), ldb_none (by omega) (by omega) fun x a b c => this x a (by omega)]
    exact ⟨rfl, fun e h => by cases h⟩
  · rename_i e he
    obtain ⟨g1, g2, g3, g4⟩ := fd_some he
    by_cases c : e = n
    · subst c
      rw [ldb_none (by omega) (by omega) fun x a b d => g4 x a d, ldb_none (by omega) (by omega) fun x a b d => g4 x a d]
      exact ⟨rfl, fun e h => by cases h⟩
    · have hle : e ≤ n := Int.le_of_dvd (by omega) (Int.dvd_of_emod_eq_zero g3)
      simp [c] at h
      have q0 : 0 < e / s := by
        rcases Int.lt_or_le 0 (e / s) with z | z
        · exact z
        · exfalso
          have := Int.mul_ediv_add_emod e s
          have : s * (e / s) ≤ 0 := Int.mul_nonpos_of_nonneg_of_nonpos (by omega) z
          omega
      have k1 : ∃ k : Nat, e = s + 1 + (k : Int) * s := ⟨(e / s - 1).toNat, by
        have e1 : (((e / s - 1).toNat : Nat) : Int) = e / s - 1 := by omega
        rw [e1, Int.sub_mul, Int.one_mul]
        have := Int.mul_ediv_add_emod e s
        rw [Int.mul_comm] at this
        omega⟩
      have k2 : ∃ k : Nat, e = 2 + (k : Int) * 1 := ⟨(e - 2).toNat, by omega⟩
      rw [ldb_eq (by omega) (by omega) (by omega) g3 g4 k1, ldb_eq (by omega) (by omega) (by omega) g3 g4 k2]
      refine ⟨rfl, fun x h => ?_⟩
      split at h
      · cases h; exact ⟨he, c⟩
      · cases h
/-! ### lists of ints, compared -/
theorem pys_ints : ∀ ns : List Int, D.pys (ns.map D.int) = some (ns.map PyData.int)
  | [] => rfl
  | a :: l => by simp only [List.map_cons, D.pys, pys_ints l, D.py]
theorem lay_ints : ∀ ns : List Int, PyData.canLayAll0 (ns.map PyData.int) = true
  | [] => rfl
  | a :: l => by simp only [List.map_cons, PyData.canLayAll0, PyData.canLay0, lay_ints l, Bool.and_self]
theorem deep_ints : ∀ ns : List Int, PyData.depthAll (ns.map PyData.int) = 0
  | [] => rfl
  | a :: l => by simp only [List.map_cons, PyData.depthAll, PyData.depth, deep_ints l]; rfl
theorem eqv_ints : ∀ ns ms : List Int, PyData.eqvAll (ns.map PyData.int) (ms.map PyData.int) = decide (ns = ms)
  | [], [] => rfl
  | [], b :: m => rfl
  | a :: l, [] => rfl
  | a :: l, b :: m => by
    simp only [List.map_cons, PyData.eqvAll, PyData.eqv, eqv_ints l m]
    by_cases h : a = b <;> by_cases h2 : l = m <;> simp [h, h2]
theorem shaped_lst (ns : List Int) : SeqAt.shaped (.list (ns.map PyData.int)) = true := by
  unfold SeqAt.shaped
  simp only [PyData.canLay0, lay_ints, PyData.depth, deep_ints]
  decide
theorem shaped_tup (ns : List Int) : SeqAt.shaped (.tuple (ns.map PyData.int)) = true := by
  unfold SeqAt.shaped
  simp only [PyData.canLay0, lay_ints, PyData.depth, deep_ints]
  decide
theorem eqD_lst {ns ms : List Int} : eqD (.lst (ns.map D.int)) (.lst (ms.map D.int)) = some (decide (ns = ms)) := by
  simp only [eqD, scalD, deepD, D.py, pys_ints, Option.map_some, shaped_lst, Bool.and_self, if_true, PyData.eqv, eqv_ints]
theorem eqD_tup {ns ms : List Int} : eqD (.tup (ns.map D.int)) (.tup (ms.map D.int)) = some (decide (ns = ms)) := by
  simp only [eqD, scalD, deepD, D.py, pys_ints, Option.map_some, shaped_tup, Bool.and_self, if_true, PyData.eqv, eqv_ints]
theorem ne_nil {ns : List Int} : gNe (.lst (ns.map D.int)) (.lst []) = some (.bl (!decide (ns = []))) := by
  have := eqD_lst (ns := ns) (ms := [])
  simp only [List.map_nil] at this
  simp only [gNe, this, Option.map_some]
theorem ix_head {a : Int} {ns : List Int} : gIx (.lst ((a :: ns).map D.int)) (.int 0) = some (.int a) := by
  show atI (.int a :: ns.map D.int) 0 = some (.int a)
  have h1 : ixN (D.int a :: ns.map D.int).length 0 = some 0 := by
    unfold ixN
    rw [if_pos (by omega), if_pos (by rw [List.length_cons]; omega)]
    rfl
  unfold atI
  rw [h1]
  rfl
theorem seq_nx {s1 s2 : FS} {n : Nat} {E E' : Env} {S S' : Store} (h : s1 n E S = .nx E' S') : fSeq s1 s2 n E S = s2 n E' S' := by
  unfold fSeq; rw [h]
end DL

end

section
set_option autoImplicit false
set_option autoImplicit false
namespace DL
open PySem PySem.Spec PyProof.Rows L2
section
variable {n : Nat} {E : Env} {S : Store} {f fk fx : FE} {lo hi : FO} {i j : Nat}
@[simp] theorem e_foN : foN n E S = .ok none S := nrf rfl
@[simp] theorem e_foS : foS f n E S = (f n E S).bind fun d S1 => match d with
  | .int i => .ok (some i) S1
  | _ => .stk := nrf rfl
@[simp] theorem e_Sl : fSl f lo hi n E S = (f n E S).bind fun d S1 => (lo n E S1).bind fun a S2 => (hi n E S2).bind fun b S3 => match gSl d a b with
  | some r => .ok r S3
  | none => .stk := nrf rfl
@[simp] theorem o_slL {l : List D} {a b : Option Int} : gSl (.lst l) a b = some (.lst (cutD l a b)) := nrf rfl
@[simp] theorem o_slT {l : List D} {a b : Option Int} : gSl (.tup l) a b = some (.tup (cutD l a b)) := nrf rfl
@[simp] theorem e_DNew : fDNew n E S = .ok (.dct []) S := nrf rfl
theorem e_DSet : fDSet i fk f n E S = (match f n E S with
  | .ok d S1 => match E[i]? with
    | some (some (.own (.dct l))) => match fk n E S1 with
      | .ok dk S2 => match keyD dk with
        | some k => if l.length < 1000000 then .nx (E.set i (some (.own (.dct (puD l k d))))) S2 else .stk
        | none => .stk
      | .exc x S1 => .ex x E S1
      | .stk => .stk
    | _ => .stk
  | .exc x S1 => .ex x E S1
  | .stk => .stk) := nrf rfl
@[simp] theorem e_DGet2 : fDGet2 f fk fx n E S = (f n E S).bind fun d S1 => match d with
  | .dct l => (fk n E S1).bind fun dk S2 => (fx n E S2).bind fun z S3 => match keyD dk with
    | some k => .ok ((lkD l k).getD z) S3
    | none => .stk
  | _ => .stk := nrf rfl
@[simp] theorem e_Index : fIndex f fx n E S = (f n E S).bind fun d S1 => match d with
  | .lst l => (fx n E S1).bind fun b S2 => match gIndex (.lst l) b with
    | some d => .ok d S2
    | none => .stk
  | _ => .stk := nrf rfl
theorem e_Pop : fPop i j n E S = (match E[i]? with
  | some (some (.own (.lst l))) => match l[l.length - 1]? with
    | some d => .nx ((E.set i (some (.own (.lst l.dropLast)))).set j (some (.fz d))) S
    | none => .stk
  | _ => .stk) := nrf rfl
theorem e_App : fApp i f n E S = (match E[i]? with
  | some (some (.own (.lst l))) => match f n E S with
    | .ok d S1 => if l.length < 1000000 then .nx (E.set i (some (.own (.lst (l ++ [d]))))) S1 else .stk
    | .exc x S1 => .ex x E S1
    | .stk => .stk
  | _ => .stk) := nrf rfl
@[simp] theorem e_Index_key {k : Int} : keyD (.int k) = some (.inl k) := nrf rfl
@[simp] theorem e_Count : fCount f fx n E S = (f n E S).bind fun d S1 => match d with
  | .lst l => (fx n E S1).bind fun b S2 => match gCount (.lst l) b with
    | some d => .ok d S2
    | none => .stk
  | _ => .stk := nrf rfl
@[simp] theorem o_count {ns : List Int} {k : Int} : gCount (.lst (ns.map D.int)) (.int k) = some (.int (ns.count k : Nat)) := by
  show (ints? _).map _ = _
  rw [ints?_map]; rfl
@[simp] theorem o_revL {l : List D} : gRevL (.lst l) = some (.lst l.reverse) := nrf rfl
@[simp] theorem o_revA {l : List D} : gRev (.lst l) = some (.lst l.reverse) := nrf rfl
@[simp] theorem o_revB {l : List D} : gRev (.tup l) = some (.tup l.reverse) := nrf rfl
@[simp] theorem e_Items : fItems f n E S = (f n E S).bind fun d S1 => match d with
  | .dct l => .ok (l.map itD) S1
  | _ => .stk := nrf rfl
@[simp] theorem e_Keys : fKeys f n E S = (f n E S).bind fun d S1 => match d with
  | .dct l => .ok (l.map fun q => kD q.1) S1
  | _ => .stk := nrf rfl
@[simp] theorem e_Dict1 : fDict1 fk f n E S = (fk n E S).bind fun dk S1 => (f n E S1).bind fun d S2 => match keyD dk with
  | some k => .ok (.dct [(k, d)]) S2
  | none => .stk := nrf rfl
theorem e_Move : fMove i j n E S = (match E[i]? with
  | some (some (.own d)) => .nx ((E.set i none).set j (some (.own d))) S
  | _ => .stk) := nrf rfl
@[simp] theorem e_LockD {s : FS} : fLockD i s n E S = s n (lockE E i) S := nrf rfl
@[simp] theorem e_DictL {g : FA} : fDictL g n E S = (g n E S).bind fun ds S1 => match gDictP ds with
  | some l => .ok (.dct l) S1
  | none => .stk := nrf rfl
end
theorem for_nx {t : Tgt} {b : Env → Store → SRes} {d : D} {l : List D} {E E1 E2 : Env} {S S2 : Store} (h1 : t d E = some E1) (h2 : b E1 S = .nx E2 S2) : forL t b (d :: l) E S = forL t b l E2 S2 := by
  simp only [forL, h1, h2]
theorem for_ct {t : Tgt} {b : Env → Store → SRes} {d : D} {l : List D} {E E1 E2 : Env} {S S2 : Store} (h1 : t d E = some E1) (h2 : b E1 S = .ct E2 S2) : forL t b (d :: l) E S = forL t b l E2 S2 := by
  simp only [forL, h1, h2]
theorem for_nil {t : Tgt} {b : Env → Store → SRes} {E : Env} {S : Store} : forL t b [] E S = .nx E S := rfl
/-- a while, turn by turn -/
theorem while_nx {c : Env → Store → Res Bool} {b : Env → Store → SRes} {k : Nat} {E E2 : Env} {S S1 S2 : Store} (h1 : c E S = .ok true S1) (h2 : b E S1 = .nx E2 S2) : whileL c b (k + 1) E S = whileL c b k E2 S2 := by
  simp only [whileL, h1, h2]
theorem while_end {c : Env → Store → Res Bool} {b : Env → Store → SRes} {k : Nat} {E : Env} {S S1 : Store} (h1 : c E S = .ok false S1) : whileL c b (k + 1) E S = .nx E S1 := by
  simp only [whileL, h1]
/-- lists of turns over numbers -/
theorem rngI_succ {i : Int} {k : Nat} : rngI i 1 (k + 1) = i :: rngI (i + 1) 1 k := by
  unfold rngI
  rw [List.range_succ_eq_map]
  simp only [List.map_cons, List.map_map]
  congr 1
  · simp
  · apply List.map_congr_left
    intro x _
    simp only [Function.comp]
    omega
theorem in_lst {i : Int} {ns : List Int} : gIn (.int i) (.lst (ns.map D.int)) = some (.bl (ns.any fun n => n == i)) := by
  have h : (ns.map D.int).all flatD = true := by simp [List.all_map, flatD]
  simp [gIn, gInB, inF, flatD, List.any_map, Function.comp_def, eqF, List.all_map]
theorem nin_lst {i : Int} {ns : List Int} : gNin (.int i) (.lst (ns.map D.int)) = some (.bl (!ns.any fun n => n == i)) := by
  have h : (ns.map D.int).all flatD = true := by simp [List.all_map, flatD]
  simp [gNin, gInB, inF, flatD, List.any_map, Function.comp_def, eqF, List.all_map]
theorem lcL_all {α : Type} {g : Tgt} {c : Env → Store → Res Bool} {e : Env → Store → Res D} {E : Env} {S : Store} (enc fv : α → D) (P : α → Bool) : ∀ l : List α,
    (∀ a ∈ l, ∃ E1, g (enc a) E = some E1 ∧ c E1 S = .ok (P a) S ∧ (P a = true → e E1 S = .ok (fv a) S)) → lcL g c e (l.map enc) E S = .ok ((l.filter P).map fv) S
  | [], _ => rfl
  | a :: l, h => by
    obtain ⟨E1, h1, h2, h3⟩ := h a (List.mem_cons_self ..)
    have ih := lcL_all enc fv P l fun x hx => h x (List.mem_cons_of_mem _ hx)
    simp only [List.map_cons, lcL, h1, h2, e_bindN_ok]
    cases hp : P a with
    | true => simp only [h3 hp, e_bindN_ok, ih, List.filter_cons_of_pos hp, List.map_cons]
    | false => simp only [ih]; rw [List.filter_cons_of_neg (by simp [hp])]
/-- all items, no test -/
theorem lcL_yes {α : Type} {g : Tgt} {e : Env → Store → Res D} {E : Env} {S : Store} {n : Nat} (enc fv : α → D) (l : List α)
    (h : ∀ a ∈ l, ∃ E1, g (enc a) E = some E1 ∧ e E1 S = .ok (fv a) S) : lcL g (fYes n) e (l.map enc) E S = .ok (l.map fv) S := by
  have := lcL_all (g := g) (c := fYes n) (e := e) (E := E) (S := S) enc fv (fun _ => true) l fun a ha => by
    obtain ⟨E1, h1, h2⟩ := h a ha
    exact ⟨E1, h1, rfl, fun _ => h2⟩
  rw [this]
  congr 2
  exact List.filter_eq_self.mpr fun _ _ => rfl
end DL

end

section
set_option autoImplicit false
set_option autoImplicit false
namespace DL
open PySem PySem.Spec PyProof.Rows L2
/-- a comprehension with two clauses and no test, over ints -/
theorem lc2L_yes {g g1 : Tgt} {it1 : Env → Store → Res (List D)} {e : Env → Store → Res D} {vs1 : List Nat} {E : Env} {S : Store} {n : Nat} (ys : List Int) (fv : Int → Int → D) : ∀ xs : List Int,
    (∀ x ∈ xs, ∃ E1, g (.int x) E = some E1 ∧ it1 E1 S = .ok (ys.map D.int) S ∧ ∀ y ∈ ys, ∃ E2, g1 (.int y) (wipeE E1 vs1) = some E2 ∧ e E2 S = .ok (fv x y) S) →
    lc2L g (fYes n) it1 g1 (fYes n) e vs1 (xs.map D.int) E S = .ok (xs.flatMap fun x => ys.map (fv x)) S
  | [], _ => rfl
  | x :: xs, h => by
    obtain ⟨E1, h1, h2, h3⟩ := h x (List.mem_cons_self ..)
    have ih := lc2L_yes (n := n) ys fv xs fun z hz => h z (List.mem_cons_of_mem _ hz)
    have inn := lcL_yes (g := g1) (e := e) (E := wipeE E1 vs1) (S := S) (n := n) D.int (fv x) ys h3
    have hy : fYes n E1 S = .ok true S := rfl
    simp only [List.map_cons, lc2L, h1, hy, e_bindN_ok, h2, inn, ih, List.flatMap_cons]
theorem lc2_ok {it it1 : FA} {g g1 : Tgt} {e : FE} {vs vs1 : List Nat} {n : Nat} {E : Env} {S : Store} {ds L : List D} (h1 : it n E S = .ok ds S) (h2 : lc2L g (fYes n) (it1 n) g1 (fYes n) (e n) vs1 ds (wipeE E vs) S = .ok L S) (h3 : L.length ≤ 1000000) :
    fLc2 it g fYes it1 g1 fYes e vs vs1 n E S = .ok (.lst L) S := by
  unfold fLc2
  rw [h1]
  show ((lc2L g (fYes n) (it1 n) g1 (fYes n) (e n) vs1 ds (wipeE E vs) S).bindN fun l S2 => if l.length ≤ 1000000 then Res.ok (D.lst l) S2 else Res.stk) = _
  rw [h2]
  show (if L.length ≤ 1000000 then Res.ok (D.lst L) S else Res.stk) = _
  rw [if_pos h3]
/-- the dict made of pairs (int, True): its keys -/
theorem prD_true : ∀ xs : List Int, prD? (xs.map fun x => D.tup [.int x, .bl true]) = some (xs.map fun x => (.inl x, .bl true))
  | [] => rfl
  | x :: xs => by
    have ih := prD_true xs
    simp only [List.map_cons, prD?, keyD, Option.bind_some, ih, Option.map_some]
theorem e_SetIx {n : Nat} {E : Env} {S : Store} {i : Nat} {fk fv : FE} : fSetIx i fk fv n E S = (match fv n E S with
  | .ok d S1 => match E[i]? with
    | some (some (.own (.lst l))) => match fk n E S1 with
      | .ok (.int k) S2 => match ixN l.length k with
        | some j => .nx (E.set i (some (.own (.lst (l.set j d))))) S2
        | none => .stk
      | .ok _ _ => .stk
      | .exc x S1 => .ex x E S1
      | .stk => .stk
    | _ => .stk
  | .exc x S1 => .ex x E S1
  | .stk => .stk) := nrf rfl
theorem ixN_nat {n i : Nat} (h : i < n) : ixN n (i : Int) = some i := by
  unfold ixN
  rw [if_pos (by omega), if_pos (by omega)]; rfl
theorem ixN_int {n : Nat} {i : Int} (h0 : 0 ≤ i) (h : i < n) : ixN n i = some i.toNat := by
  unfold ixN
  rw [if_pos (by omega), if_pos (by omega)]
/-- a list of numbers by a function -/
def FL (n : Nat) (f : Nat → Int) : List D := (List.range n).map fun r => D.int (f r)
theorem FL_len {n : Nat} {f : Nat → Int} : (FL n f).length = n := by simp [FL]
theorem FL_get {n i : Nat} {f : Nat → Int} (h : i < n) : (FL n f)[i]? = some (.int (f i)) := by simp [FL, h]
theorem FL_at {n : Nat} {i : Int} {f : Nat → Int} (h0 : 0 ≤ i) (h : i < n) : gIx (.lst (FL n f)) (.int i) = some (.int (f i.toNat)) := by
  show atI _ _ = _
  unfold atI
  rw [FL_len, ixN_int h0 h]
  exact FL_get (by omega)
theorem FL_ext {n : Nat} {f g : Nat → Int} (h : ∀ i, i < n → f i = g i) : FL n f = FL n g := by
  unfold FL
  apply List.map_congr_left
  intro a ha
  rw [h a (List.mem_range.mp ha)]
theorem FL_set {n i : Nat} {v : Int} {f : Nat → Int} : (FL n f).set i (.int v) = FL n (fun r => if r = i then v else f r) := by
  apply List.ext_getElem?
  intro j
  rw [List.getElem?_set]
  by_cases hj : j < n
  · rw [FL_get hj, FL_get hj, FL_len]
    by_cases e : i = j
    · subst e; rw [if_pos rfl, if_pos hj, if_pos rfl]
    · rw [if_neg e, if_neg (fun z => e z.symm)]
  · have z : ∀ g, (FL n g)[j]? = none := fun g => List.getElem?_eq_none (by rw [FL_len]; omega)
    rw [z, z, FL_len]
    by_cases e : i = j
    · subst e; rw [if_pos rfl, if_neg hj]
    · rw [if_neg e]
theorem enumD_map {α : Type} (g : α → D) : ∀ (l : List α) (k : Nat), enumD k (l.map g) = l.mapIdx fun i a => D.tup [.int (k + i : Nat), g a]
  | [], k => rfl
  | a :: l, k => by
    rw [List.map_cons, List.mapIdx_cons]
    show _ :: enumD (k + 1) (l.map g) = _
    rw [enumD_map g l (k + 1)]
    congr 1
    apply List.ext_getElem?
    intro i
    simp only [List.getElem?_mapIdx]
    congr 1
    funext a
    have : k + 1 + i = k + (i + 1) := by omega
    rw [this]
theorem enumD_FL {n : Nat} {f : Nat → Int} : enumD 0 (FL n f) = (List.range n).map fun r : Nat => D.tup [.int (r : Nat), .int (f r)] := by
  unfold FL
  rw [enumD_map]
  apply List.ext_getElem?
  intro i
  rw [List.getElem?_mapIdx, List.getElem?_map]
  by_cases h : i < n
  · rw [List.getElem?_range h]; simp
  · rw [List.getElem?_eq_none (by simpa using h)]; rfl
theorem enum_FL {n : Nat} {f : Nat → Int} : enum? [.lst (FL n f)] = some ((List.range n).map fun r : Nat => D.tup [.int (r : Nat), .int (f r)]) := by
  show some _ = _
  rw [enumD_FL]
theorem FL_rep {n : Nat} (h : n ≤ 1000000) : gRep (.lst [.int 0]) (.int n) = some (.lst (FL n fun _ => 0)) := by
  have hl : [D.int 0].length = 1 := rfl
  have h1 : decide ((n : Int) < 2 ^ 63) = true := by rw [decide_eq_true_eq]; omega
  have h2 : decide (-(2 ^ 63) ≤ (n : Int)) = true := by rw [decide_eq_true_eq]; omega
  have h3 : decide ([D.int 0].length * (n : Int).toNat ≤ sizeLine) = true := by rw [decide_eq_true_eq, hl]; unfold sizeLine; omega
  unfold gRep
  simp only [h1, h2, h3, Bool.and_self, if_true]
  have e : (n : Int).toNat = n := by omega
  rw [e]
  refine congrArg (fun l => some (D.lst l)) ?_
  unfold FL
  clear e h h1 h2 h3 hl
  induction n with
  | zero => rfl
  | succ n ih => rw [List.replicate_succ', List.flatten_append, ih, List.range_succ, List.map_append]; rfl
end DL

end

section
set_option autoImplicit true
namespace LW
open PySem PySem.Spec PyProof.Rows L2 DL
-- functions
def N_is_integer : List Str := ["value"]
def f_is_integer : FS := (fRet (fAnd (fCB gIsi (fCons (fRd 0) (fCons (fC (.ty "int")) fNil))) (fNot (fCB gIsi (fCons (fRd 0) (fCons (fC (.ty "bool")) fNil))))))
def m_is_integer : MF := fun ds S => bodyR (f_is_integer fuel (startE N_is_integer ds) S)
def N_is_whole : List Str := ["value", "low", "high"]
def f_is_whole : FS := (fRet (fAnd (fCall m_is_integer (fCons (fVar 0) fNil)) (fChain gLe gLe (fRd 1) (fRd 0) (fRd 2))))
def m_is_whole : MF := fun ds S => bodyR (f_is_whole fuel (startE N_is_whole ds) S)
def N_need_whole : List Str := ["value", "low", "high"]
def f_need_whole : FS := (fIfS (fNotT (fBool (fCall m_is_whole (fCons (fVar 0) (fCons (fVar 1) (fCons (fVar 2) fNil)))))) (fRaise "InvalidNumber") fSkip)
def m_need_whole : MF := fun ds S => bodyR (f_need_whole fuel (startE N_need_whole ds) S)
def N_is_tuple_of : List Str := ["value", "low", "high"]
def f_is_tuple_of : FS := (fRet (fAnd (fCB gIsi (fCons (fRd 0) (fCons (fC (.ty "tuple")) fNil))) (fChain gLe gLe (fRd 1) (fCB gLen (fCons (fRd 0) fNil)) (fRd 2))))
def m_is_tuple_of : MF := fun ds S => bodyR (f_is_tuple_of fuel (startE N_is_tuple_of ds) S)
def N_power_in : List Str := ["one", "times", "great", "found", "here", "left"]
def wc1_power_in : FT := (fBool (fOp gGt (fRd 5) (fC (.int 0))))
def wb1_power_in : FS := (fSeq (fIfS (fBool (fOp gEq (fOp gMod (fRd 5) (fC (.int 2))) (fC (.int 1)))) (fSet 3 (fOp gMod (fOp gMul (fRd 3) (fRd 4)) (fRd 2))) fSkip) (fPar2 4 5 (fCons (fOp gMod (fOp gMul (fRd 4) (fRd 4)) (fRd 2)) (fCons (fOp gDiv (fRd 5) (fC (.int 2))) fNil))))
def f_power_in : FS := (fSeq (fPar3 3 4 5 (fCons (fC (.int 1)) (fCons (fOp gMod (fRd 0) (fRd 2)) (fCons (fVar 1) fNil)))) (fSeq (fWhile (wc1_power_in) (wb1_power_in)) (fRet (fOp gMod (fRd 3) (fRd 2)))))
def m_power_in : MF := fun ds S => bodyR (f_power_in fuel (startE N_power_in ds) S)
def N_need_times : List Str := ["value"]
def f_need_times : FS := (fIfS (fNotT (fBool (fCall m_is_whole (fCons (fVar 0) (fCons (fC (.int 2)) (fCons (fC (.int 12)) fNil)))))) (fRaise "InvalidTimes") fSkip)
def m_need_times : MF := fun ds S => bodyR (f_need_times fuel (startE N_need_times ds) S)
def N_need_rest : List Str := ["number", "value"]
def f_need_rest : FS := (fIfS (fNotT (fBool (fCall m_is_whole (fCons (fVar 1) (fCons (fC (.int 0)) (fCons (fOp gSub (fRd 0) (fC (.int 1))) fNil)))))) (fRaise "InvalidRest") fSkip)
def m_need_rest : MF := fun ds S => bodyR (f_need_rest fuel (startE N_need_rest ds) S)
def N_power_rests : List Str := ["number", "times", "rest"]
def le1_power_rests : FE := (fCall m_power_in (fCons (fVar 2) (fCons (fVar 1) (fCons (fVar 0) fNil))))
def f_power_rests : FS := (fSeq (fExp (fCall m_need_whole (fCons (fVar 0) (fCons (fC (.int 1)) (fCons (fC (.int 10000)) fNil))))) (fSeq (fExp (fCall m_need_times (fCons (fVar 1) fNil))) (fRet (fCB gTuple (fCons (fUn gSetS (fLc (fLift rng1? (fCons (fVar 0) fNil)) (gN 2) fYes (le1_power_rests) [2])) fNil)))))
def m_power_rests : MF := fun ds S => bodyR (f_power_rests fuel (startE N_power_rests ds) S)
def N_powers_in : List Str := ["number", "times", "rest"]
def le1_powers_in : FE := (fCall m_power_in (fCons (fVar 2) (fCons (fVar 1) (fCons (fVar 0) fNil))))
def f_powers_in : FS := (fRet (fLc (fLift rng1? (fCons (fVar 0) fNil)) (gN 2) fYes (le1_powers_in) [2]))
def m_powers_in : MF := fun ds S => bodyR (f_powers_in fuel (startE N_powers_in ds) S)
def N_fewest_in : List Str := ["number", "times", "powers", "least", "found", "rest", "own", "line", "terms", "later", "here"]
def fb1_fewest_in : FS := (fDSet 3 (fRd 6) (fDGet2 (fRd 3) (fRd 6) (fVar 5)))
def fb2_fewest_in : FS := (fSeq (fSetIx 4 (fVar 6) (fTup (fCons (fC (.int 1)) (fCons (fVar 5) fNil)))) (fApp 7 (fVar 6)))
def fb3_fewest_in : FS := (fIfS (fBool (fOp gIs (fOp gIx (fRd 4) (fOp gMod (fOp gAdd (fRd 10) (fRd 6)) (fRd 0))) (fC .non))) (fSeq (fSetIx 4 (fOp gMod (fOp gAdd (fRd 10) (fRd 6)) (fRd 0)) (fTup (fCons (fVar 8) (fCons (fVar 5) fNil)))) (fApp 9 (fOp gMod (fOp gAdd (fRd 10) (fRd 6)) (fRd 0)))) fSkip)
def fb4_fewest_in : FS := (fLockD 3 (fFor (fItems (fVar 3)) (gT (gConss (gN 6) (gConss (gN 5) gNils))) (fb3_fewest_in)))
def wc1_fewest_in : FT := (fBool (fOp gNe (fRd 7) (fLst fNil)))
def wb1_fewest_in : FS := (fSeq (fPm2 8 9 (fmFz (fOp gAdd (fRd 8) (fC (.int 1))) (fmOwn (fLst fNil) fmNil))) (fFrz 7 (fSeq (fFor (fIt (fVar 7)) (gN 10) (fb4_fewest_in)) (fMove 9 7))))
def f_fewest_in : FS := (fSeq (fSet 2 (fCall m_powers_in (fCons (fVar 0) (fCons (fVar 1) fNil)))) (fSeq (fPm2 3 4 (fmOwn fDNew (fmOwn (fOp gRep (fLst (fCons (fC .non) fNil)) (fRd 0)) fmNil))) (fSeq (fFor (fLift enum? (fCons (fVar 2) fNil)) (gT (gConss (gN 5) (gConss (gN 6) gNils))) (fb1_fewest_in)) (fSeq (fPm2 7 8 (fmOwn (fLst fNil) (fmFz (fC (.int 1)) fmNil))) (fLockD 3 (fSeq (fFor (fItems (fVar 3)) (gT (gConss (gN 6) (gConss (gN 5) gNils))) (fb2_fewest_in)) (fSeq (fWhile (wc1_fewest_in) (wb1_fewest_in)) (fFrz 4 (fRet (fVar 4))))))))))
def m_fewest_in : MF := fun ds S => bodyR (f_fewest_in fuel (startE N_fewest_in ds) S)
def N_sums_of : List Str := ["number", "times", "many", "powers", "here", "turn", "own", "more"]
def le1_sums_of : FE := (fTup (fCons (fOp gMod (fOp gAdd (fRd 6) (fRd 7)) (fRd 0)) (fCons (fC (.bl true)) fNil)))
def fb1_sums_of : FS := (fSet 4 (fDictL (fCons (fLc2 (fKeys (fVar 4)) (gN 6) fYes (fIt (fVar 3)) (gN 7) fYes (le1_sums_of) [6, 7] [7]) fNil)))
def f_sums_of : FS := (fSeq (fSet 3 (fUn gSetS (fCall m_powers_in (fCons (fVar 0) (fCons (fVar 1) fNil))))) (fSeq (fSet 4 (fDict1 (fC (.int 0)) (fC (.bl true)))) (fSeq (fFor (fLift rng1? (fCons (fVar 2) fNil)) (gN 5) (fb1_sums_of)) (fRet (fCB gSortedD (fCons (fRd 4) fNil))))))
def m_sums_of : MF := fun ds S => bodyR (f_sums_of fuel (startE N_sums_of ds) S)
def N_terms_in : List Str := ["number", "times", "rest", "fewest", "found", "here", "turn"]
def fb1_terms_in : FS := (fSeq (fApp 4 (fOp gIx (fOp gIx (fRd 3) (fRd 5)) (fC (.int 1)))) (fSet 5 (fOp gMod (fOp gSub (fRd 5) (fCall m_power_in (fCons (fOp gIx (fRd 4) (fUn gNeg (fC (.int 1)))) (fCons (fVar 1) (fCons (fVar 0) fNil))))) (fRd 0))))
def f_terms_in : FS := (fSeq (fPm3 3 4 5 (fmFz (fCall m_fewest_in (fCons (fVar 0) (fCons (fVar 1) fNil))) (fmOwn (fLst fNil) (fmFz (fVar 2) fmNil)))) (fSeq (fFor (fLift rng1? (fCons (fOp gIx (fOp gIx (fRd 3) (fRd 2)) (fC (.int 0))) fNil)) (gN 6) (fb1_terms_in)) (fFrz 4 (fRet (fVar 4)))))
def m_terms_in : MF := fun ds S => bodyR (f_terms_in fuel (startE N_terms_in ds) S)
def N_ways_of_sums : List Str := ["number", "times", "many", "powers", "counts", "here", "own", "turn", "later", "at", "ways", "more"]
def fb1_ways_of_sums : FS := (fDSet 4 (fRd 6) (fOp gAdd (fDGet2 (fRd 4) (fRd 6) (fC (.int 0))) (fC (.int 1))))
def fb2_ways_of_sums : FS := (fSetIx 8 (fOp gMod (fOp gAdd (fRd 9) (fRd 6)) (fRd 0)) (fOp gAdd (fOp gIx (fRd 8) (fOp gMod (fOp gAdd (fRd 9) (fRd 6)) (fRd 0))) (fOp gMul (fRd 10) (fRd 11))))
def fb3_ways_of_sums : FS := (fIfS (fBool (fOp gGt (fRd 10) (fC (.int 0)))) (fLockD 4 (fFor (fItems (fVar 4)) (gT (gConss (gN 6) (gConss (gN 11) gNils))) (fb2_ways_of_sums))) fSkip)
def fb4_ways_of_sums : FS := (fSeq (fSetO 8 (fOp gRep (fLst (fCons (fC (.int 0)) fNil)) (fRd 0))) (fSeq (fFor (fLift enum? (fCons (fVar 5) fNil)) (gT (gConss (gN 9) (gConss (gN 10) gNils))) (fb3_ways_of_sums)) (fFrz 8 (fSet 5 (fVar 8)))))
def f_ways_of_sums : FS := (fSeq (fSet 3 (fCall m_powers_in (fCons (fVar 0) (fCons (fVar 1) fNil)))) (fSeq (fPm2 4 5 (fmOwn fDNew (fmFz (fOp gAdd (fLst (fCons (fC (.int 1)) fNil)) (fOp gMul (fLst (fCons (fC (.int 0)) fNil)) (fOp gSub (fRd 0) (fC (.int 1))))) fmNil))) (fSeq (fFor (fIt (fVar 3)) (gN 6) (fb1_ways_of_sums)) (fSeq (fFor (fLift rng1? (fCons (fVar 2) fNil)) (gN 7) (fb4_ways_of_sums)) (fRet (fVar 5))))))
def m_ways_of_sums : MF := fun ds S => bodyR (f_ways_of_sums fuel (startE N_ways_of_sums ds) S)
def N_need_few : List Str := ["number", "times"]
def f_need_few : FS := (fSeq (fExp (fCall m_need_whole (fCons (fVar 0) (fCons (fC (.int 1)) (fCons (fC (.int 500)) fNil))))) (fExp (fCall m_need_times (fCons (fVar 1) fNil))))
def m_need_few : MF := fun ds S => bodyR (f_need_few fuel (startE N_need_few ds) S)
def N_least_terms : List Str := ["number", "times", "pair"]
def le1_least_terms : FE := (fOp gIx (fRd 2) (fC (.int 0)))
def f_least_terms : FS := (fSeq (fExp (fCall m_need_few (fCons (fVar 0) (fCons (fVar 1) fNil)))) (fRet (fCB gMax (fCons (fLc (fIt (fCall m_fewest_in (fCons (fVar 0) (fCons (fVar 1) fNil)))) (gN 2) fYes (le1_least_terms) [2]) fNil))))
def m_least_terms : MF := fun ds S => bodyR (f_least_terms fuel (startE N_least_terms ds) S)
def N_rests_of_sums : List Str := ["number", "times", "many"]
def f_rests_of_sums : FS := (fSeq (fExp (fCall m_need_few (fCons (fVar 0) (fCons (fVar 1) fNil)))) (fSeq (fExp (fCall m_need_whole (fCons (fVar 2) (fCons (fC (.int 1)) (fCons (fC (.int 20)) fNil))))) (fRet (fCB gTuple (fCons (fCall m_sums_of (fCons (fVar 0) (fCons (fVar 1) (fCons (fVar 2) fNil)))) fNil)))))
def m_rests_of_sums : MF := fun ds S => bodyR (f_rests_of_sums fuel (startE N_rests_of_sums ds) S)
def N_power_terms : List Str := ["number", "times", "rest"]
def f_power_terms : FS := (fSeq (fExp (fCall m_need_few (fCons (fVar 0) (fCons (fVar 1) fNil)))) (fSeq (fExp (fCall m_need_rest (fCons (fVar 0) (fCons (fVar 2) fNil)))) (fRet (fCB gTuple (fCons (fCall m_terms_in (fCons (fVar 0) (fCons (fVar 1) (fCons (fVar 2) fNil)))) fNil)))))
def m_power_terms : MF := fun ds S => bodyR (f_power_terms fuel (startE N_power_terms ds) S)
def N_are_power_terms : List Str := ["number", "times", "rest", "value", "many", "own"]
def le1_are_power_terms : FE := (fCall m_is_whole (fCons (fVar 5) (fCons (fC (.int 0)) (fCons (fOp gSub (fRd 0) (fC (.int 1))) fNil))))
def le2_are_power_terms : FE := (fCall m_power_in (fCons (fVar 5) (fCons (fVar 1) (fCons (fVar 0) fNil))))
def f_are_power_terms : FS := (fSeq (fExp (fCall m_need_few (fCons (fVar 0) (fCons (fVar 1) fNil)))) (fSeq (fExp (fCall m_need_rest (fCons (fVar 0) (fCons (fVar 2) fNil)))) (fSeq (fSet 4 (fOp gIx (fOp gIx (fCall m_fewest_in (fCons (fVar 0) (fCons (fVar 1) fNil))) (fRd 2)) (fC (.int 0)))) (fSeq (fIfS (fOrT (fNotT (fBool (fCall m_is_tuple_of (fCons (fVar 3) (fCons (fVar 4) (fCons (fVar 4) fNil)))))) (fNotT (fBool (fCB gAll (fCons (fLc (fIt (fVar 3)) (gN 5) fYes (le1_are_power_terms) [5]) fNil))))) (fRet (fC (.bl false))) fSkip) (fRet (fOp gEq (fOp gMod (fCB gSum (fCons (fLc (fIt (fVar 3)) (gN 5) fYes (le2_are_power_terms) [5]) fNil)) (fRd 0)) (fRd 2)))))))
def m_are_power_terms : MF := fun ds S => bodyR (f_are_power_terms fuel (startE N_are_power_terms ds) S)
def N_count_power_sums : List Str := ["number", "times", "many", "rest"]
def f_count_power_sums : FS := (fSeq (fExp (fCall m_need_few (fCons (fVar 0) (fCons (fVar 1) fNil)))) (fSeq (fExp (fCall m_need_whole (fCons (fVar 2) (fCons (fC (.int 1)) (fCons (fC (.int 12)) fNil))))) (fSeq (fExp (fCall m_need_rest (fCons (fVar 0) (fCons (fVar 3) fNil)))) (fRet (fOp gIx (fCall m_ways_of_sums (fCons (fVar 0) (fCons (fVar 1) (fCons (fVar 2) fNil)))) (fRd 3))))))
def m_count_power_sums : MF := fun ds S => bodyR (f_count_power_sums fuel (startE N_count_power_sums ds) S)
def N__law_cup : List Str := ["script", "cell"]
def f__law_cup : FS := (fSeq (fSet 1 (fCB gAbs (fCons (fOp gIx (fOp gAdd (fCB gList (fCons (fRd 0) fNil)) (fLst (fCons (fC (.int 0)) fNil))) (fC (.int 0))) fNil))) (fRetH (fLst (fCons (fIf (fBool (fOp gGe (fRd 1) (fOp gPow (fC (.int 10)) (fC (.int 18))))) (fOp gDiv (fRd 1) (fC (.int 73))) (fC (.int 0))) (fCons (fOp gAdd (fOp gMod (fCB gInt (fCons (fOp gAdd (fOp gMul (fRd 1) (fC (.int 283))) (fC (.int 3907))) fNil)) (fC (.int 2077503167))) (fC (.int 167))) fNil)))))
def m__law_cup : MF := fun ds S => bodyR (f__law_cup fuel (startE N__law_cup ds) S)
def N__law_roll : List Str := ["cup", "many", "found", "deep"]
def f__law_roll : FS := (fSeq (fIfS (fBool (fOp gGt (fIxH 0 0) (fC (.int 0)))) (fSeq (fSet 2 (fOp gMod (fCB gInt (fCons (fIxH 0 0) fNil)) (fRd 1))) (fSeq (fSetIxH 0 0 (fOp gDiv (fIxH 0 0) (fRd 1))) (fRet (fVar 2)))) fSkip) (fSeq (fSetIxH 0 1 (fOp gMod (fCB gInt (fCons (fOp gAdd (fOp gMul (fIxH 0 1) (fC (.int 31051))) (fC (.int 7993))) fNil)) (fC (.int 2147483543)))) (fSeq (fSet 3 (fOp gMod (fCB gInt (fCons (fOp gMul (fIxH 0 1) (fOp gAdd (fIxH 0 1) (fC (.int 229)))) fNil)) (fC (.int 2147483587)))) (fRet (fOp gMod (fCB gInt (fCons (fOp gDiv (fRd 3) (fC (.int 821))) fNil)) (fRd 1))))))
def m__law_roll : MF := fun ds S => bodyR (f__law_roll fuel (startE N__law_roll ds) S)
def N__law_some : List Str := ["cup", "things"]
def f__law_some : FS := (fRet (fOp gIx (fRd 1) (fCall m__law_roll (fCons (fVar 0) (fCons (fCB gLen (fCons (fRd 1) fNil)) fNil)))))
def m__law_some : MF := fun ds S => bodyR (f__law_some fuel (startE N__law_some ds) S)
def N__law_sort : List Str := ["value"]
def f__law_sort : FS := (fSeq (fIfS (fOrT (fBool (fOp gIs (fRd 0) (fC .non))) (fBool (fCB gIsi (fCons (fRd 0) (fCons (fC (.ty "bool")) fNil))))) (fRet (fIf (fBool (fOp gIs (fRd 0) (fC .non))) (fC (.int 0)) (fC (.int 1)))) fSkip) (fSeq (fIfS (fOrT (fBool (fCB gIsi (fCons (fRd 0) (fCons (fC (.ty "int")) fNil)))) (fBool (fCB gIsi (fCons (fRd 0) (fCons (fC (.ty "str")) fNil))))) (fRet (fIf (fBool (fCB gIsi (fCons (fRd 0) (fCons (fC (.ty "int")) fNil)))) (fC (.int 2)) (fC (.int 3)))) fSkip) (fRet (fIf (fBool (fCB gIsi (fCons (fRd 0) (fCons (fC (.ty "tuple")) fNil)))) (fC (.int 4)) (fIf (fBool (fCB gIsi (fCons (fRd 0) (fCons (fC (.ty "list")) fNil)))) (fC (.int 5)) (fC (.int 6)))))))
def m__law_sort : MF := fun ds S => bodyR (f__law_sort fuel (startE N__law_sort ds) S)
def N__law_like : List Str := ["one", "other", "sort", "first", "second"]
def lt1__law_like (mr : MF) : FT := (fNotT (fBool (fCall mr (fCons (fVar 3) (fCons (fVar 4) fNil)))))
def le1__law_like : FE := (fC (.int 1))
def f__law_like (mr : MF) : FS := (fSeq (fSet 2 (fCall m__law_sort (fCons (fVar 1) fNil))) (fSeq (fIfS (fOrT (fBool (fOp gNe (fCall m__law_sort (fCons (fVar 0) fNil)) (fRd 2))) (fBool (fOp gEq (fRd 2) (fC (.int 6))))) (fRet (fC (.bl false))) fSkip) (fSeq (fIfS (fBool (fOp gIn (fRd 2) (fTup (fCons (fC (.int 4)) (fCons (fC (.int 5)) fNil))))) (fRet (fAnd (fOp gEq (fCB gLen (fCons (fRd 0) fNil)) (fCB gLen (fCons (fRd 1) fNil))) (fOp gEq (fLc (fLift zip? (fCons (fVar 0) (fCons (fVar 1) fNil))) (gT (gConss (gN 3) (gConss (gN 4) gNils))) (lt1__law_like mr) (le1__law_like) [3, 4]) (fLst fNil)))) fSkip) (fRet (fOp gEq (fRd 0) (fRd 1))))))
def mk__law_like : Nat → MF
  | 0 => fun _ _ => .stk
  | k + 1 => fun ds S => bodyR (f__law_like (mk__law_like k) fuel (startE N__law_like ds) S)
def m__law_like : MF := mk__law_like 8
def N__law_is_prime : List Str := ["number", "found"]
def wc1__law_is_prime : FT := (fBool (fOp gLe (fOp gMul (fRd 1) (fRd 1)) (fRd 0)))
def wb1__law_is_prime : FS := (fSeq (fIfS (fBool (fOp gEq (fOp gMod (fCB gInt (fCons (fRd 0) fNil)) (fRd 1)) (fC (.int 0)))) (fRet (fC (.bl false))) fSkip) (fSet 1 (fOp gAdd (fRd 1) (fC (.int 1)))))
def f__law_is_prime : FS := (fSeq (fIfS (fBool (fOp gLt (fRd 0) (fC (.int 2)))) (fRet (fC (.bl false))) fSkip) (fSeq (fSet 1 (fC (.int 2))) (fSeq (fWhile (wc1__law_is_prime) (wb1__law_is_prime)) (fRet (fC (.bl true))))))
def m__law_is_prime : MF := fun ds S => bodyR (f__law_is_prime fuel (startE N__law_is_prime ds) S)
def N__law_power : List Str := ["one", "times", "number", "found", "here"]
def wc1__law_power : FT := (fBool (fOp gGt (fRd 1) (fC (.int 0))))
def wb1__law_power : FS := (fSeq (fSet 3 (fIf (fBool (fOp gEq (fOp gMod (fCB gInt (fCons (fRd 1) fNil)) (fC (.int 2))) (fC (.int 1)))) (fOp gMod (fCB gInt (fCons (fOp gMul (fRd 3) (fRd 4)) fNil)) (fRd 2)) (fVar 3))) (fPar2 4 1 (fCons (fOp gMod (fCB gInt (fCons (fOp gMul (fRd 4) (fRd 4)) fNil)) (fRd 2)) (fCons (fCB gInt (fCons (fOp gDiv (fRd 1) (fC (.int 2))) fNil)) fNil))))
def f__law_power : FS := (fSeq (fPar2 3 4 (fCons (fC (.int 1)) (fCons (fOp gMod (fCB gInt (fCons (fRd 0) fNil)) (fRd 2)) fNil))) (fSeq (fWhile (wc1__law_power) (wb1__law_power)) (fRet (fOp gMod (fCB gInt (fCons (fRd 3) fNil)) (fRd 2)))))
def m__law_power : MF := fun ds S => bodyR (f__law_power fuel (startE N__law_power ds) S)
def N__law_number : List Str := ["cup", "most", "way", "found", "primes", "turn", "prime"]
def fb1__law_number : FS := (fSeq (fSet 6 (fCall m__law_some (fCons (fVar 0) (fCons (fVar 4) fNil)))) (fSet 3 (fIf (fBool (fOp gLe (fOp gMul (fRd 3) (fRd 6)) (fRd 1))) (fOp gMul (fRd 3) (fRd 6)) (fVar 3))))
def f__law_number : FS := (fSeq (fPar2 2 3 (fCons (fCall m__law_roll (fCons (fVar 0) (fCons (fC (.int 4)) fNil))) (fCons (fC (.int 1)) fNil))) (fSeq (fIfS (fBool (fOp gLt (fRd 2) (fC (.int 2)))) (fRet (fOp gAdd (fC (.int 1)) (fCall m__law_roll (fCons (fVar 0) (fCons (fVar 1) fNil))))) fSkip) (fSeq (fSet 4 (fIf (fBool (fOp gEq (fRd 2) (fC (.int 2)))) (fLst (fCons (fC (.int 2)) (fCons (fC (.int 3)) (fCons (fC (.int 5)) (fCons (fC (.int 7)) (fCons (fC (.int 11)) (fCons (fC (.int 13)) fNil))))))) (fLst (fCons (fCall m__law_some (fCons (fVar 0) (fCons (fLst (fCons (fC (.int 2)) (fCons (fC (.int 3)) (fCons (fC (.int 5)) (fCons (fC (.int 7)) (fCons (fC (.int 11)) fNil)))))) fNil))) fNil)))) (fSeq (fFor (fLift rng1? (fCons (fC (.int 6)) fNil)) (gN 5) (fb1__law_number)) (fRet (fVar 3))))))
def m__law_number : MF := fun ds S => bodyR (f__law_number fuel (startE N__law_number ds) S)
def N__law_times_of : List Str := ["cup"]
def f__law_times_of : FS := (fRet (fCall m__law_some (fCons (fVar 0) (fCons (fLst (fCons (fC (.int 2)) (fCons (fC (.int 3)) (fCons (fC (.int 3)) (fCons (fC (.int 4)) (fCons (fC (.int 4)) (fCons (fC (.int 5)) (fCons (fC (.int 6)) (fCons (fC (.int 7)) (fCons (fC (.int 8)) (fCons (fC (.int 9)) (fCons (fC (.int 10)) (fCons (fC (.int 11)) (fCons (fC (.int 12)) fNil)))))))))))))) fNil))))
def m__law_times_of : MF := fun ds S => bodyR (f__law_times_of fuel (startE N__law_times_of ds) S)
def N__law_sums : List Str := ["number", "times", "powers", "found", "here", "one", "other", "rest"]
def le1__law_sums : FE := (fCall m__law_power (fCons (fVar 7) (fCons (fVar 1) (fCons (fVar 0) fNil))))
def fb1__law_sums : FS := (fDSet 4 (fOp gMod (fCB gInt (fCons (fOp gAdd (fRd 5) (fRd 6)) fNil)) (fRd 0)) (fC (.bl true)))
def fb2__law_sums : FS := (fFor (fIt (fVar 2)) (gN 6) (fb1__law_sums))
def wc1__law_sums : FT := (fBool (fOp gLt (fCB gLen (fCons (fOp gIx (fRd 3) (fUn gNeg (fC (.int 1)))) fNil)) (fRd 0)))
def wb1__law_sums : FS := (fSeq (fSetO 4 fDNew) (fSeq (fFor (fIt (fOp gIx (fRd 3) (fUn gNeg (fC (.int 1))))) (gN 5) (fb2__law_sums)) (fApp 3 (fCB gSortedD (fCons (fRd 4) fNil)))))
def f__law_sums : FS := (fSeq (fSet 2 (fUn gSetS (fLc (fLift rng1? (fCons (fVar 0) fNil)) (gN 7) fYes (le1__law_sums) [7]))) (fSeq (fSetO 3 (fLst (fCons (fVar 2) fNil))) (fSeq (fWhile (wc1__law_sums) (wb1__law_sums)) (fFrz 3 (fRet (fVar 3))))))
def m__law_sums : MF := fun ds S => bodyR (f__law_sums fuel (startE N__law_sums ds) S)
def N__law_right : List Str := ["cup", "number", "times", "sums", "many", "due", "turn", "rest", "fewest", "told", "drawn", "values", "value", "good", "at", "lot", "odd", "own"]
def lt1__law_right : FT := (fBool (fOp gIn (fRd 7) (fRd 15)))
def le1__law_right : FE := (fOp gAdd (fRd 14) (fC (.int 1)))
def le2__law_right : FE := (fCall m__law_roll (fCons (fVar 0) (fCons (fVar 1) fNil)))
def le3__law_right : FE := (fOp gRepT (fTup (fCons (fVar 16) fNil)) (fRd 8))
def lt2__law_right : FT := (fOrT (fBool (fOp gNe (fCall m__law_sort (fCons (fVar 17) fNil)) (fC (.int 2)))) (fNotT (fBool (fChain gLe gLt (fC (.int 0)) (fRd 17) (fRd 1)))))
def le4__law_right : FE := (fVar 17)
def le5__law_right : FE := (fCall m__law_power (fCons (fVar 17) (fCons (fVar 2) (fCons (fVar 1) fNil))))
def fb1__law_right : FS := (fSeq (fSet 13 (fAnd (fCB gIsi (fCons (fRd 12) (fCons (fC (.ty "tuple")) fNil))) (fAnd (fOp gEq (fCB gLen (fCons (fRd 12) fNil)) (fRd 8)) (fOp gEq (fLc (fIt (fVar 12)) (gN 17) (lt2__law_right) (le4__law_right) [17]) (fLst fNil))))) (fSeq (fSet 13 (fAnd (fVar 13) (fOp gEq (fOp gMod (fCB gInt (fCons (fCB gSum (fCons (fLc (fIt (fVar 12)) (gN 17) fYes (le5__law_right) [17]) fNil)) fNil)) (fRd 1)) (fRd 7)))) (fIfS (fNotT (fBool (fCall m__law_like (fCons (fCall m_are_power_terms (fCons (fVar 1) (fCons (fVar 2) (fCons (fVar 7) (fCons (fVar 12) fNil))))) (fCons (fVar 13) fNil))))) (fRet (fC (.bl false))) fSkip)))
def fb2__law_right : FS := (fSeq (fSet 7 (fCall m__law_roll (fCons (fVar 0) (fCons (fVar 1) fNil)))) (fSeq (fSet 8 (fOp gIx (fLc (fLift enum? (fCons (fVar 3) fNil)) (gT (gConss (gN 14) (gConss (gN 15) gNils))) (lt1__law_right) (le1__law_right) [14, 15]) (fC (.int 0)))) (fSeq (fSet 9 (fCall m_power_terms (fCons (fVar 1) (fCons (fVar 2) (fCons (fVar 7) fNil))))) (fSeq (fSet 10 (fCB gTuple (fCons (fLc (fLift rng1? (fCons (fVar 8) fNil)) (gN 14) fYes (le2__law_right) [14]) fNil))) (fSeq (fSet 11 (fLst (fCons (fVar 9) (fCons (fUn gRev (fRd 9)) (fCons (fCB gList (fCons (fRd 9) fNil)) (fCons (fSl (fRd 9) (foS (fC (.int 1))) foN) (fCons (fOp gAdd (fRd 9) (fTup (fCons (fC (.int 0)) fNil))) (fCons (fVar 10) (fCons (fC .non) (fCons (fTup fNil) (fCons (fC (.int 5)) (fCons (fOp gRepT (fTup (fCons (fC (.int 1)) fNil)) (fRd 7)) fNil)))))))))))) (fSeq (fSet 11 (fOp gAdd (fRd 11) (fLc (fIt (fTup (fCons (fC .non) (fCons (fC (.bl true)) (fCons (fVar 1) (fCons (fC (.str "1")) fNil)))))) (gN 16) fYes (le3__law_right) [16]))) (fSeq (fFor (fIt (fVar 11)) (gN 12) (fb1__law_right)) (fIfS (fOrT (fBool (fOp gNe (fCB gLen (fCons (fRd 9) fNil)) (fRd 8))) (fBool (fOp gIsNB (fCall m_are_power_terms (fCons (fVar 1) (fCons (fVar 2) (fCons (fVar 7) (fCons (fVar 9) fNil))))) (fC (.bl true))))) (fRet (fC (.bl false))) fSkip))))))))
def f__law_right : FS := (fSeq (fSet 3 (fCall m__law_sums (fCons (fVar 1) (fCons (fVar 2) fNil)))) (fSeq (fSet 4 (fOp gAdd (fC (.int 1)) (fCall m__law_roll (fCons (fVar 0) (fCons (fC (.int 20)) fNil))))) (fSeq (fSet 5 (fIf (fBool (fOp gLe (fRd 4) (fCB gLen (fCons (fRd 3) fNil)))) (fOp gIx (fRd 3) (fOp gSub (fRd 4) (fC (.int 1)))) (fOp gIx (fRd 3) (fUn gNeg (fC (.int 1)))))) (fSeq (fIfS (fNotT (fBool (fCall m__law_like (fCons (fLst (fCons (fCall m_least_terms (fCons (fVar 1) (fCons (fVar 2) fNil))) (fCons (fCall m_rests_of_sums (fCons (fVar 1) (fCons (fVar 2) (fCons (fVar 4) fNil)))) fNil))) (fCons (fLst (fCons (fCB gLen (fCons (fRd 3) fNil)) (fCons (fCB gTuple (fCons (fRd 5) fNil)) fNil))) fNil))))) (fRet (fC (.bl false))) fSkip) (fSeq (fFor (fLift rng1? (fCons (fC (.int 4)) fNil)) (gN 6) (fb2__law_right)) (fRet (fC (.bl true))))))))
def m__law_right : MF := fun ds S => bodyR (f__law_right fuel (startE N__law_right ds) S)
def N__law_ways_right : List Str := ["cup", "number", "times", "powers", "rest", "due", "many", "whole", "turn", "one", "own"]
def le1__law_ways_right : FE := (fCall m__law_power (fCons (fVar 4) (fCons (fVar 2) (fCons (fVar 1) fNil))))
def le2__law_ways_right : FE := (fCount (fRd 3) (fOp gMod (fCB gInt (fCons (fOp gSub (fRd 4) (fRd 9)) fNil)) (fRd 1)))
def le3__law_ways_right : FE := (fOp gMul (fCall m_count_power_sums (fCons (fVar 1) (fCons (fVar 2) (fCons (fOp gSub (fRd 6) (fC (.int 1))) (fCons (fOp gMod (fCB gInt (fCons (fOp gSub (fRd 4) (fRd 10)) fNil)) (fRd 1)) fNil))))) (fCount (fRd 3) (fVar 10)))
def fb1__law_ways_right : FS := (fSet 7 (fOp gMul (fRd 7) (fRd 1)))
def le4__law_ways_right : FE := (fCall m_count_power_sums (fCons (fVar 1) (fCons (fVar 2) (fCons (fVar 6) (fCons (fVar 10) fNil)))))
def f__law_ways_right : FS := (fSeq (fSet 3 (fLc (fLift rng1? (fCons (fVar 1) fNil)) (gN 4) fYes (le1__law_ways_right) [4])) (fSeq (fSet 4 (fCall m__law_roll (fCons (fVar 0) (fCons (fVar 1) fNil)))) (fSeq (fSet 5 (fCB gSum (fCons (fLc (fIt (fVar 3)) (gN 9) fYes (le2__law_ways_right) [9]) fNil))) (fSeq (fIfS (fNotT (fBool (fCall m__law_like (fCons (fLst (fCons (fCall m_count_power_sums (fCons (fVar 1) (fCons (fVar 2) (fCons (fC (.int 2)) (fCons (fVar 4) fNil))))) (fCons (fCall m_count_power_sums (fCons (fVar 1) (fCons (fVar 2) (fCons (fC (.int 1)) (fCons (fVar 4) fNil))))) fNil))) (fCons (fLst (fCons (fVar 5) (fCons (fCount (fRd 3) (fVar 4)) fNil))) fNil))))) (fRet (fC (.bl false))) fSkip) (fSeq (fSet 6 (fOp gAdd (fC (.int 2)) (fCall m__law_roll (fCons (fVar 0) (fCons (fC (.int 5)) fNil))))) (fSeq (fSet 5 (fCB gSum (fCons (fLc (fIt (fSl (fUn gSetS (fRd 3)) foN (foS (fC (.int 40))))) (gN 10) fYes (le3__law_ways_right) [10]) fNil))) (fSeq (fIfS (fAndT (fBool (fOp gLe (fUn gSetN (fRd 3)) (fC (.int 40)))) (fNotT (fBool (fCall m__law_like (fCons (fCall m_count_power_sums (fCons (fVar 1) (fCons (fVar 2) (fCons (fVar 6) (fCons (fVar 4) fNil))))) (fCons (fVar 5) fNil)))))) (fRet (fC (.bl false))) fSkip) (fSeq (fSet 7 (fC (.int 1))) (fSeq (fFor (fLift rng1? (fCons (fVar 6) fNil)) (gN 8) (fb1__law_ways_right)) (fRet (fOr (fOp gGt (fRd 1) (fC (.int 20))) (fOp gEq (fCB gSum (fCons (fLc (fLift rng1? (fCons (fVar 1) fNil)) (gN 10) fYes (le4__law_ways_right) [10]) fNil)) (fRd 7)))))))))))))
def m__law_ways_right : MF := fun ds S => bodyR (f__law_ways_right fuel (startE N__law_ways_right ds) S)
def N__law_primes_right : List Str := ["cup", "prime", "other", "square", "root", "own"]
def wc1__law_primes_right : FT := (fNotT (fBool (fCall m__law_is_prime (fCons (fVar 1) fNil))))
def wb1__law_primes_right : FS := (fSet 1 (fOp gAdd (fRd 1) (fC (.int 1))))
def fb1__law_primes_right : FS := (fIfS (fBool (fOp gEq (fOp gMul (fRd 4) (fRd 4)) (fRd 3))) (fSeq (fSet 5 (fIf (fBool (fOp gEq (fOp gMod (fCB gInt (fCons (fRd 4) fNil)) (fC (.int 3))) (fC (.int 1)))) (fVar 4) (fOp gSub (fC (.int 0)) (fRd 4)))) (fRet (fCall m__law_like (fCons (fCall m_count_power_sums (fCons (fVar 1) (fCons (fC (.int 3)) (fCons (fC (.int 2)) (fCons (fC (.int 1)) fNil))))) (fCons (fOp gAdd (fOp gSub (fRd 1) (fC (.int 2))) (fRd 5)) fNil))))) fSkip)
def fb2__law_primes_right : FS := (fSeq (fSet 3 (fOp gSub (fOp gMul (fC (.int 4)) (fRd 1)) (fOp gMul (fOp gMul (fC (.int 27)) (fRd 2)) (fRd 2)))) (fFor (fLift rng2? (fCons (fC (.int 1)) (fCons (fC (.int 50)) fNil))) (gN 4) (fb1__law_primes_right)))
def f__law_primes_right : FS := (fSeq (fSet 1 (fOp gAdd (fC (.int 5)) (fCall m__law_roll (fCons (fVar 0) (fCons (fC (.int 400)) fNil))))) (fSeq (fWhile (wc1__law_primes_right) (wb1__law_primes_right)) (fSeq (fIfS (fNotT (fBool (fCall m__law_like (fCons (fCall m_count_power_sums (fCons (fVar 1) (fCons (fC (.int 2)) (fCons (fC (.int 2)) (fCons (fC (.int 1)) fNil))))) (fCons (fOp gSub (fRd 1) (fIf (fBool (fOp gEq (fOp gMod (fCB gInt (fCons (fRd 1) fNil)) (fC (.int 4))) (fC (.int 1)))) (fC (.int 1)) (fUn gNeg (fC (.int 1))))) fNil))))) (fRet (fC (.bl false))) fSkip) (fSeq (fIfS (fBool (fOp gEq (fOp gMod (fCB gInt (fCons (fRd 1) fNil)) (fC (.int 3))) (fC (.int 2)))) (fRet (fCall m__law_like (fCons (fCall m_count_power_sums (fCons (fVar 1) (fCons (fC (.int 3)) (fCons (fC (.int 2)) (fCons (fC (.int 1)) fNil))))) (fCons (fVar 1) fNil)))) fSkip) (fSeq (fFor (fLift rng2? (fCons (fC (.int 1)) (fCons (fC (.int 20)) fNil))) (gN 2) (fb2__law_primes_right)) (fRet (fC (.bl false))))))))
def m__law_primes_right : MF := fun ds S => bodyR (f__law_primes_right fuel (startE N__law_primes_right ds) S)
def N_law : List Str := ["script", "cup", "told", "most", "prime", "times", "own", "double"]
def fb1_law : FS := (fIfS (fNotT (fBool (fCall m__law_right (fCons (fVar 1) (fCons (fCall m__law_number (fCons (fVar 1) (fCons (fVar 3) fNil))) (fCons (fCall m__law_times_of (fCons (fVar 1) fNil)) fNil)))))) (fRet (fC (.bl false))) fSkip)
def fb2_law : FS := (fIfS (fNotT (fBool (fCall m__law_ways_right (fCons (fVar 1) (fCons (fCall m__law_number (fCons (fVar 1) (fCons (fVar 3) fNil))) (fCons (fCall m__law_times_of (fCons (fVar 1) fNil)) fNil)))))) (fRet (fC (.bl false))) fSkip)
def f_law : FS := (fSeq (fSet 1 (fCall m__law_cup (fCons (fVar 0) fNil))) (fSeq (fSet 2 (fLst (fCons (fCall m_least_terms (fCons (fC (.int 7)) (fCons (fC (.int 3)) fNil))) (fCons (fCall m_least_terms (fCons (fC (.int 9)) (fCons (fC (.int 3)) fNil))) (fCons (fCall m_least_terms (fCons (fC (.int 16)) (fCons (fC (.int 4)) fNil))) (fCons (fCall m_least_terms (fCons (fC (.int 1)) (fCons (fC (.int 2)) fNil))) (fCons (fCall m_rests_of_sums (fCons (fC (.int 9)) (fCons (fC (.int 3)) (fCons (fC (.int 2)) fNil)))) (fCons (fCall m_power_terms (fCons (fC (.int 7)) (fCons (fC (.int 2)) (fCons (fC (.int 0)) fNil)))) fNil)))))))) (fSeq (fSet 2 (fOp gAdd (fRd 2) (fLst (fCons (fCall m_are_power_terms (fCons (fC (.int 7)) (fCons (fC (.int 3)) (fCons (fC (.int 3)) (fCons (fTup (fCons (fC (.int 1)) (fCons (fC (.int 2)) (fCons (fC (.int 4)) fNil)))) fNil))))) (fCons (fCall m_are_power_terms (fCons (fC (.int 7)) (fCons (fC (.int 3)) (fCons (fC (.int 1)) (fCons (fTup (fCons (fC (.int 1)) (fCons (fC (.int 0)) fNil))) fNil))))) (fCons (fCall m_are_power_terms (fCons (fC (.int 7)) (fCons (fC (.int 3)) (fCons (fC (.int 1)) (fCons (fTup (fCons (fC (.int 3)) fNil)) fNil))))) (fCons (fCall m_count_power_sums (fCons (fC (.int 7)) (fCons (fC (.int 3)) (fCons (fC (.int 2)) (fCons (fC (.int 0)) fNil))))) fNil))))))) (fSeq (fSet 2 (fOp gAdd (fRd 2) (fLst (fCons (fCall m_count_power_sums (fCons (fC (.int 5)) (fCons (fC (.int 2)) (fCons (fC (.int 2)) (fCons (fC (.int 1)) fNil))))) (fCons (fCall m_count_power_sums (fCons (fC (.int 1)) (fCons (fC (.int 2)) (fCons (fC (.int 3)) (fCons (fC (.int 0)) fNil))))) fNil))))) (fSeq (fIfS (fNotT (fBool (fCall m__law_like (fCons (fVar 2) (fCons (fLst (fCons (fC (.int 3)) (fCons (fC (.int 4)) (fCons (fC (.int 15)) (fCons (fC (.int 1)) (fCons (fTup (fCons (fC (.int 0)) (fCons (fC (.int 1)) (fCons (fC (.int 2)) (fCons (fC (.int 7)) (fCons (fC (.int 8)) fNil)))))) (fCons (fTup (fCons (fC (.int 0)) fNil)) (fCons (fC (.bl true)) (fCons (fC (.bl false)) (fCons (fC (.bl false)) (fCons (fC (.int 19)) (fCons (fC (.int 4)) (fCons (fC (.int 1)) fNil))))))))))))) fNil))))) (fRet (fC (.bl false))) fSkip) (fSeq (fFor (fIt (fTup (fCons (fC (.int 3)) (fCons (fC (.int 20)) (fCons (fC (.int 60)) (fCons (fC (.int 120)) fNil)))))) (gN 3) (fb1_law)) (fSeq (fFor (fIt (fTup (fCons (fC (.int 4)) (fCons (fC (.int 12)) (fCons (fC (.int 40)) fNil))))) (gN 3) (fb2_law)) (fSeq (fIfS (fNotT (fBool (fCall m__law_primes_right (fCons (fVar 1) fNil)))) (fRet (fC (.bl false))) fSkip) (fSeq (fSet 4 (fCall m__law_some (fCons (fVar 1) (fCons (fLst (fCons (fC (.int 2)) (fCons (fC (.int 3)) (fCons (fC (.int 5)) (fCons (fC (.int 7)) (fCons (fC (.int 11)) (fCons (fC (.int 13)) (fCons (fC (.int 17)) (fCons (fC (.int 19)) (fCons (fC (.int 23)) (fCons (fC (.int 29)) (fCons (fC (.int 31)) (fCons (fC (.int 37)) (fCons (fC (.int 41)) (fCons (fC (.int 101)) (fCons (fC (.int 499)) fNil)))))))))))))))) fNil)))) (fSeq (fSet 5 (fCall m__law_times_of (fCons (fVar 1) fNil))) (fSeq (fIfS (fBool (fOp gGt (fCall m_least_terms (fCons (fVar 4) (fCons (fVar 5) fNil))) (fRd 5))) (fRet (fC (.bl false))) fSkip) (fSeq (fSet 6 (fCall m__law_some (fCons (fVar 1) (fCons (fLst (fCons (fC (.int 2)) (fCons (fC (.int 4)) (fCons (fC (.int 6)) (fCons (fC (.int 10)) (fCons (fC (.int 12)) fNil)))))) fNil)))) (fSeq (fIfS (fNotT (fBool (fCall m__law_like (fCons (fLst (fCons (fCall m_least_terms (fCons (fOp gAdd (fRd 6) (fC (.int 1))) (fCons (fVar 6) fNil))) (fCons (fCall m_power_rests (fCons (fOp gAdd (fRd 6) (fC (.int 1))) (fCons (fVar 6) fNil))) fNil))) (fCons (fLst (fCons (fVar 6) (fCons (fTup (fCons (fC (.int 0)) (fCons (fC (.int 1)) fNil))) fNil))) fNil))))) (fRet (fC (.bl false))) fSkip) (fSeq (fSet 7 (fCall m__law_some (fCons (fVar 1) (fCons (fLst (fCons (fC (.int 3)) (fCons (fC (.int 5)) (fCons (fC (.int 6)) (fCons (fC (.int 8)) (fCons (fC (.int 9)) (fCons (fC (.int 11)) fNil))))))) fNil)))) (fRet (fCall m__law_like (fCons (fLst (fCons (fCall m_least_terms (fCons (fOp gAdd (fOp gMul (fC (.int 2)) (fRd 7)) (fC (.int 1))) (fCons (fVar 7) fNil))) (fCons (fCall m_power_rests (fCons (fOp gAdd (fOp gMul (fC (.int 2)) (fRd 7)) (fC (.int 1))) (fCons (fVar 7) fNil))) fNil))) (fCons (fLst (fCons (fVar 7) (fCons (fTup (fCons (fC (.int 0)) (fCons (fC (.int 1)) (fCons (fOp gMul (fC (.int 2)) (fRd 7)) fNil)))) fNil))) fNil))))))))))))))))))
def m_law : MF := fun ds S => bodyR (f_law fuel (startE N_law ds) S)
end LW

end

section
set_option autoImplicit false
set_option autoImplicit false
/-! plain number theory: primes, Lagrange's bound for roots -/
namespace NT
/-- no divisor but the trivial ones -/
def Pm (g : Int) : Prop := 2 ≤ g ∧ ∀ d, 2 ≤ d → d < g → ¬ d ∣ g
theorem Pm.euclid {g a b : Int} (h : Pm g) (hd : g ∣ a * b) : g ∣ a ∨ g ∣ b := by
  obtain ⟨h2, hp⟩ := h
  have hg : (Int.gcd g a : Int) ∣ g := Int.gcd_dvd_left ..
  have h0 : 0 < Int.gcd g a := Int.gcd_pos_of_ne_zero_left _ (by omega)
  have hle : (Int.gcd g a : Int) ≤ g := Int.le_of_dvd (by omega) hg
  by_cases e : (Int.gcd g a : Int) = g
  · left; rw [← e]; exact Int.gcd_dvd_right ..
  · by_cases e1 : Int.gcd g a = 1
    · right
      have q : g.natAbs ∣ a.natAbs * b.natAbs := by rw [← Int.natAbs_mul]; exact Int.natAbs_dvd_natAbs.mpr hd
      exact Int.natAbs_dvd_natAbs.mp (Nat.Coprime.dvd_of_dvd_mul_left (k := g.natAbs) (m := a.natAbs) e1 q)
    · exact absurd hg (hp _ (by omega) (by omega))
/-- the value of a row of coefficients -/
def ev : List Int → Int → Int
  | [], _ => 0
  | c :: l, x => c + x * ev l x
def dv (a : Int) : List Int → List Int
  | [] => []
  | [_] => []
  | _ :: c :: l => ev (c :: l) a :: dv a (c :: l)
theorem dv_ev (a x : Int) : ∀ l, ev l x - ev l a = (x - a) * ev (dv a l) x
  | [] => by simp [ev, dv]
  | [c] => by simp [ev, dv]
  | b :: c :: l => by
    have ih := dv_ev a x (c :: l)
    have e1 : ev (b :: c :: l) x = b + x * ev (c :: l) x := rfl
    have e2 : ev (b :: c :: l) a = b + a * ev (c :: l) a := rfl
    have e3 : ev (dv a (b :: c :: l)) x = ev (c :: l) a + x * ev (dv a (c :: l)) x := rfl
    rw [e1, e2, e3, Int.mul_add]
    have : (x - a) * (x * ev (dv a (c :: l)) x) = x * (ev (c :: l) x - ev (c :: l) a) := by rw [ih, Int.mul_left_comm]
    rw [this, Int.mul_sub, Int.sub_mul]
    omega
theorem dv_last (a : Int) : ∀ l (n : Nat), l.length = n + 2 → l.getLast? = some 1 → (dv a l).length = n + 1 ∧ (dv a l).getLast? = some 1
  | [], n, h, _ => by simp at h
  | [c], n, h, _ => by simp at h
  | [b, c], n, h, h2 => by
    simp at h h2; subst h; subst h2
    simp [dv, ev]
  | b :: c :: d :: l, n, h, h2 => by
    cases n with
    | zero => simp at h
    | succ n =>
      obtain ⟨h3, h4⟩ := dv_last a (c :: d :: l) n (by simpa using h) (by simpa using h2)
      simp only [dv] at h3 h4 ⊢
      refine ⟨by simpa using h3, ?_⟩
      rw [List.getLast?_cons_cons]; exact h4
/-- a row with 1 at its end has not more roots than steps -/
theorem roots_few {g : Int} (hp : Pm g) : ∀ (n : Nat) (l : List Int) (a : Int), l.length = n + 1 → l.getLast? = some 1 → (n : Int) < g → (∀ k : Nat, k ≤ n → g ∣ ev l (a + k)) → False
  | 0, l, a, h1, h2, h3, h4 => by
    match l, h1 with
    | [c], _ =>
      simp at h2; subst h2
      have := h4 0 (Nat.le_refl _)
      simp [ev] at this
      have := Int.le_of_dvd (by decide) this
      have := hp.1; omega
  | n + 1, l, a, h1, h2, h3, h4 => by
    obtain ⟨h5, h6⟩ := dv_last a l n h1 h2
    refine roots_few hp n (dv a l) (a + 1) h5 h6 (by omega) fun k hk => ?_
    have e1 := h4 (k + 1) (by omega)
    have e0 := h4 0 (by omega)
    simp at e0
    have e2 : (a + 1 + (k : Int)) = a + ((k + 1 : Nat) : Int) := by omega
    rw [e2]
    have e3 := dv_ev a (a + ((k + 1 : Nat) : Int)) l
    have e4 : g ∣ (a + ((k + 1 : Nat) : Int) - a) * ev (dv a l) (a + ((k + 1 : Nat) : Int)) := by
      rw [← e3]; exact Int.dvd_sub e1 e0
    rcases hp.euclid e4 with e | e
    · exfalso
      have := Int.le_of_dvd (by omega) e
      omega
    · exact e
theorem ev_rep (x : Int) : ∀ k : Nat, ev (List.replicate k 0 ++ [1]) x = x ^ k
  | 0 => by simp [ev]
  | k + 1 => by
    have : List.replicate (k + 1) (0 : Int) ++ [1] = 0 :: (List.replicate k 0 ++ [1]) := by rw [List.replicate_succ]; rfl
    rw [this]
    simp only [ev, ev_rep x k, Int.pow_succ]
    rw [Int.mul_comm]; omega
/-- not all of 1 .. h + 1 have a power 1 -/
theorem pow_one_few {g : Int} (hp : Pm g) {h : Nat} (h0 : 0 < h) (hg : (h : Int) < g) (ha : ∀ x : Int, 1 ≤ x → x ≤ h + 1 → g ∣ x ^ h - 1) : False := by
  obtain ⟨k, rfl⟩ : ∃ k, h = k + 1 := ⟨h - 1, by omega⟩
  refine roots_few hp (k + 1) (-1 :: (List.replicate k 0 ++ [1])) 1 (by simp) ?_ hg fun j hj => ?_
  · rw [List.getLast?_cons]; simp
  · have := ha (1 + j) (by omega) (by omega)
    simp only [ev, ev_rep]
    rw [Int.pow_succ, Int.mul_comm] at this
    have e : -1 + (1 + (j : Int)) * (1 + (j : Int)) ^ k = (1 + (j : Int)) * (1 + (j : Int)) ^ k - 1 := by omega
    rw [e]; exact this
end NT

end

section
set_option autoImplicit false
set_option autoImplicit false
namespace NT
theorem emod_dvd_sub {g x r : Int} (h : x % g = r) : g ∣ x - r := by
  rw [← h]; exact Int.dvd_self_sub_emod
/-- if no base tells that g is no prime, the first base with another sign is a paper -/
theorem no_false {g : Int} {h : Nat} {s : Int → Int} (h5 : 5 ≤ g) (hh : (h : Int) = g / 2) (ho : g % 2 = 1)
    (ha : ∀ b, 2 ≤ b → b < g → (b ^ h % g = 1 ∧ s b = 1) ∨ (b ^ h % g = g - 1 ∧ s b = -1)) {b0 : Int} (h1 : 2 ≤ b0) (h2 : b0 ≤ g) (h3 : s b0 ≠ 1) (h4 : ∀ x, 2 ≤ x → x < b0 → s x = 1) :
    Pm g ∧ b0 ^ h % g = g - 1 := by
  have hp : Pm g := by
    refine ⟨by omega, fun d d1 d2 d3 => ?_⟩
    have e : d ∣ d ^ h := by
      obtain ⟨k, rfl⟩ : ∃ k, h = k + 1 := ⟨h - 1, by omega⟩
      rw [Int.pow_succ]; exact Int.dvd_mul_left ..
    have e2 : d ∣ d ^ h % g := by
      rw [Int.emod_def]
      exact Int.dvd_sub e (Int.dvd_trans d3 (Int.dvd_mul_right ..))
    have e3 : d ∣ 1 := by
      rcases ha d d1 d2 with ⟨q, _⟩ | ⟨q, _⟩
      · rw [q] at e2; exact e2
      · rw [q] at e2
        have := Int.dvd_sub d3 e2
        have x : g - (g - 1) = 1 := by omega
        rw [x] at this; exact this
    have := Int.le_of_dvd (by decide) e3
    omega
  refine ⟨hp, ?_⟩
  rcases Int.lt_or_le b0 g with c | c
  · rcases ha b0 h1 c with ⟨q, r⟩ | ⟨q, r⟩
    · exact absurd r h3
    · exact q
  · exfalso
    have e : b0 = g := by omega
    subst e
    refine pow_one_few hp (h := h) (by omega) (by omega) fun x x1 x2 => ?_
    by_cases c1 : x = 1
    · subst c1; rw [Int.one_pow]; exact ⟨0, by omega⟩
    · rcases ha x (by omega) (by omega) with ⟨q, r⟩ | ⟨q, r⟩
      · exact emod_dvd_sub q
      · rw [h4 x (by omega) (by omega)] at r; cases r
end NT

end

section
set_option autoImplicit false
set_option autoImplicit false
namespace NT
/-- no divisor from d on up to the root -/
def tri (n : Int) : Nat → Int → Bool
  | 0, _ => true
  | k + 1, d => if d * d ≤ n then (if n % d = 0 then false else tri n k (d + 1)) else true
theorem tri_spec {n : Int} : ∀ (k : Nat) (d : Int), 1 ≤ d → n < (d + k) * (d + k) → (tri n k d = true ↔ ∀ x, d ≤ x → x * x ≤ n → ¬ x ∣ n)
  | 0, d, h1, h2 => by
    simp only [tri, true_iff]
    intro x x1 x2
    have : d * d ≤ x * x := Int.mul_le_mul x1 x1 (by omega) (by omega)
    simp at h2; omega
  | k + 1, d, h1, h2 => by
    have e : (d + ((k + 1 : Nat) : Int)) = d + 1 + k := by omega
    rw [e] at h2
    have ih := tri_spec k (d + 1) (by omega) h2
    unfold tri
    by_cases c : d * d ≤ n
    · rw [if_pos c]
      by_cases c2 : n % d = 0
      · rw [if_pos c2]
        constructor
        · intro z; cases z
        · intro z; exact absurd (Int.dvd_of_emod_eq_zero c2) (z d (Int.le_refl _) c)
      · rw [if_neg c2, ih]
        constructor
        · intro z x x1 x2
          by_cases e : x = d
          · subst e; exact fun w => c2 (Int.emod_eq_zero_of_dvd w)
          · exact z x (by omega) x2
        · intro z x x1 x2; exact z x (by omega) x2
    · rw [if_neg c]
      simp only [true_iff]
      intro x x1 x2
      have : d * d ≤ x * x := Int.mul_le_mul x1 x1 (by omega) (by omega)
      omega
theorem Pm_iff {n : Int} (h : 2 ≤ n) : Pm n ↔ ∀ x, 2 ≤ x → x * x ≤ n → ¬ x ∣ n := by
  constructor
  · intro hp x x1 x2
    have : x * 2 ≤ x * x := Int.mul_le_mul_of_nonneg_left x1 (by omega)
    exact hp.2 x x1 (by omega)
  · intro hx
    refine ⟨h, fun d d1 d2 d3 => ?_⟩
    obtain ⟨e, he⟩ := d3
    have e0 : 0 < e := by
      rcases Int.lt_or_le 0 e with w | w
      · exact w
      · have : d * e ≤ 0 := Int.mul_nonpos_of_nonneg_of_nonpos (by omega) w
        omega
    have e1 : e ≠ 1 := fun z => by subst z; omega
    rcases Int.le_total d e with w | w
    · have : d * d ≤ d * e := Int.mul_le_mul_of_nonneg_left w (by omega)
      exact hx d d1 (by omega) ⟨e, he⟩
    · have : e * e ≤ d * e := Int.mul_le_mul_of_nonneg_right w (by omega)
      exact hx e (by omega) (by omega) ⟨d, by rw [Int.mul_comm]; exact he⟩
noncomputable def pmb (n : Int) : Bool := @decide (Pm n) (Classical.propDecidable _)
theorem pmb_iff {n : Int} : pmb n = true ↔ Pm n := by unfold pmb; exact @decide_eq_true_iff _ (Classical.propDecidable _)
theorem pmb_small {n : Int} (h : n < 2) : pmb n = false := by
  cases e : pmb n with
  | false => rfl
  | true => have := (pmb_iff.mp e).1; omega
theorem pmb_tri {n : Int} {k : Nat} (h : 2 ≤ n) (hk : n < (2 + (k : Int)) * (2 + k)) : pmb n = tri n k 2 := by
  have := (tri_spec (n := n) k 2 (by decide) hk).trans (Pm_iff h).symm
  cases e : tri n k 2 with
  | true => exact pmb_iff.mpr (this.mp e)
  | false =>
    cases e2 : pmb n with
    | false => rfl
    | true => rw [this.mpr (pmb_iff.mp e2)] at e; cases e
end NT

end

section
set_option autoImplicit false
set_option autoImplicit false
/-! sums and products over rows, rows that are the same but for their order -/
namespace NT
def sm {α : Type} (l : List α) (f : α → Int) : Int := match l with
  | [] => 0
  | a :: l => f a + sm l f
def pr {α : Type} (l : List α) (f : α → Int) : Int := match l with
  | [] => 1
  | a :: l => f a * pr l f
section
variable {α β : Type}
theorem sm_congr {f g : α → Int} : ∀ {l : List α}, (∀ a ∈ l, f a = g a) → sm l f = sm l g
  | [], _ => rfl
  | a :: l, h => by
    simp only [sm]
    rw [h a (List.mem_cons_self ..), sm_congr fun x hx => h x (List.mem_cons_of_mem _ hx)]
theorem pr_congr {f g : α → Int} : ∀ {l : List α}, (∀ a ∈ l, f a = g a) → pr l f = pr l g
  | [], _ => rfl
  | a :: l, h => by
    simp only [pr]
    rw [h a (List.mem_cons_self ..), pr_congr fun x hx => h x (List.mem_cons_of_mem _ hx)]
theorem sm_add {f g : α → Int} : ∀ {l : List α}, sm l (fun a => f a + g a) = sm l f + sm l g
  | [] => rfl
  | a :: l => by simp only [sm, sm_add (l := l)]; omega
theorem sm_mul {c : Int} {f : α → Int} : ∀ {l : List α}, sm l (fun a => c * f a) = c * sm l f
  | [] => by simp [sm]
  | a :: l => by simp only [sm, sm_mul (l := l), Int.mul_add]
theorem sm_const {c : Int} : ∀ {l : List α}, sm l (fun _ => c) = c * l.length
  | [] => by simp [sm]
  | a :: l => by
    simp only [sm, sm_const (l := l), List.length_cons]
    push_cast
    rw [Int.mul_add]; omega
theorem pr_mul {f g : α → Int} : ∀ {l : List α}, pr l (fun a => f a * g a) = pr l f * pr l g
  | [] => rfl
  | a :: l => by
    simp only [pr, pr_mul (l := l)]
    rw [Int.mul_assoc, Int.mul_assoc, Int.mul_left_comm (g a)]
theorem pr_const {c : Int} : ∀ {l : List α}, pr l (fun _ => c) = c ^ l.length
  | [] => by simp [pr]
  | a :: l => by simp only [pr, pr_const (l := l), List.length_cons, Int.pow_succ]; rw [Int.mul_comm]
theorem sm_map {f : β → Int} {s : α → β} : ∀ {l : List α}, sm (l.map s) f = sm l (fun a => f (s a))
  | [] => rfl
  | a :: l => by simp only [List.map_cons, sm, sm_map (l := l)]
theorem pr_map {f : β → Int} {s : α → β} : ∀ {l : List α}, pr (l.map s) f = pr l (fun a => f (s a))
  | [] => rfl
  | a :: l => by simp only [List.map_cons, pr, pr_map (l := l)]
theorem sm_swap {f : α → β → Int} : ∀ {l : List α} {m : List β}, sm l (fun a => sm m fun b => f a b) = sm m fun b => sm l fun a => f a b
  | [], m => by simp only [sm]; rw [sm_const]; simp
  | a :: l, m => by simp only [sm, sm_swap (l := l)]; rw [sm_add]
theorem sm_perm {f : α → Int} {l m : List α} (h : l.Perm m) : sm l f = sm m f := by
  induction h with
  | nil => rfl
  | cons x _ ih => simp only [sm, ih]
  | swap x y l => simp only [sm]; omega
  | trans _ _ h1 h2 => rw [h1, h2]
theorem pr_perm {f : α → Int} {l m : List α} (h : l.Perm m) : pr l f = pr m f := by
  induction h with
  | nil => rfl
  | cons x _ ih => simp only [pr, ih]
  | swap x y l => simp only [pr]; rw [Int.mul_left_comm]
  | trans _ _ h1 h2 => rw [h1, h2]
/-- without duplicates, among others, as many: the same ones -/
theorem perm_of_sub [BEq α] [LawfulBEq α] : ∀ {l m : List α}, l.Nodup → (∀ a ∈ l, a ∈ m) → m.length ≤ l.length → l.Perm m
  | [], m, _, _, h => by
    have : m = [] := List.length_eq_zero_iff.mp (by simpa using h)
    subst this; exact .nil
  | a :: l, m, hn, hs, hl => by
    rw [List.nodup_cons] at hn
    have ha := hs a (List.mem_cons_self ..)
    have hp := List.perm_cons_erase ha
    refine .trans ?_ hp.symm
    refine .cons a (perm_of_sub hn.2 (fun x hx => ?_) ?_)
    · have hne : x ≠ a := fun z => hn.1 (z ▸ hx)
      exact (List.mem_erase_of_ne hne).mpr (hs x (List.mem_cons_of_mem _ hx))
    · have := hp.length_eq
      simp at this hl; omega
theorem nodup_map {s : α → β} : ∀ {l : List α}, l.Nodup → (∀ a ∈ l, ∀ b ∈ l, s a = s b → a = b) → (l.map s).Nodup
  | [], _, _ => List.nodup_nil
  | a :: l, hn, hi => by
    rw [List.nodup_cons] at hn
    rw [List.map_cons, List.nodup_cons]
    refine ⟨fun h => ?_, nodup_map hn.2 fun x hx y hy => hi x (List.mem_cons_of_mem _ hx) y (List.mem_cons_of_mem _ hy)⟩
    obtain ⟨x, hx, e⟩ := List.mem_map.mp h
    have := hi x (List.mem_cons_of_mem _ hx) a (List.mem_cons_self ..) e
    exact hn.1 (this ▸ hx)
/-- a map of a row into itself, never two to one -/
theorem perm_self [BEq α] [LawfulBEq α] {s : α → α} {l : List α} (hn : l.Nodup) (hm : ∀ a ∈ l, s a ∈ l) (hi : ∀ a ∈ l, ∀ b ∈ l, s a = s b → a = b) : (l.map s).Perm l :=
  perm_of_sub (nodup_map hn hi) (fun a ha => by obtain ⟨x, hx, rfl⟩ := List.mem_map.mp ha; exact hm x hx) (by simp)
/-- products, by a number -/
theorem pr_mod {n : Int} {f g : α → Int} : ∀ {l : List α}, (∀ a ∈ l, f a % n = g a % n) → pr l f % n = pr l g % n
  | [], _ => rfl
  | a :: l, h => by
    simp only [pr]
    rw [Int.mul_emod, h a (List.mem_cons_self ..), pr_mod fun x hx => h x (List.mem_cons_of_mem _ hx), ← Int.mul_emod]
end
/-- 1 .. h -/
def seg : Nat → List Int
  | 0 => []
  | h + 1 => ((h : Int) + 1) :: seg h
theorem mem_seg {x : Int} : ∀ {h : Nat}, x ∈ seg h ↔ 1 ≤ x ∧ x ≤ h
  | 0 => by simp [seg]; omega
  | h + 1 => by
    simp only [seg, List.mem_cons, mem_seg (h := h)]
    push_cast; omega
theorem seg_len : ∀ h : Nat, (seg h).length = h
  | 0 => rfl
  | h + 1 => by simp [seg, seg_len h]
theorem seg_nodup : ∀ h : Nat, (seg h).Nodup
  | 0 => List.nodup_nil
  | h + 1 => by
    rw [seg, List.nodup_cons]
    refine ⟨fun z => ?_, seg_nodup h⟩
    have := mem_seg.mp z
    omega
/-- how many of 1 .. h are at most t -/
theorem count_le {t : Int} : ∀ {h : Nat}, 0 ≤ t → t ≤ h → sm (seg h) (fun j => if j ≤ t then 1 else 0) = t
  | 0, h0, h1 => by simp [seg, sm]; omega
  | h + 1, h0, h1 => by
    simp only [seg, sm]
    by_cases c : t ≤ h
    · rw [count_le h0 c, if_neg (by omega)]; omega
    · have e : t = (h : Int) + 1 := by push_cast at h1; omega
      rw [if_pos (by omega)]
      have : sm (seg h) (fun j => if j ≤ t then 1 else 0) = sm (seg h) (fun _ => 1) := sm_congr fun a ha => by
        have := mem_seg.mp ha
        rw [if_pos (by omega)]
      rw [this, sm_const, seg_len]; omega
end NT

end

section
set_option autoImplicit false
set_option autoImplicit false
/-! signs by turned rests (Gauss, Schering), for any odd number; reciprocity (Eisenstein) -/
namespace NT
theorem cop_dvd {n a x : Int} (hc : Int.gcd a n = 1) (h : n ∣ a * x) : n ∣ x := by
  have q : n.natAbs ∣ a.natAbs * x.natAbs := by rw [← Int.natAbs_mul]; exact Int.natAbs_dvd_natAbs.mpr h
  have hc' : Nat.Coprime n.natAbs a.natAbs := by
    have := hc; unfold Int.gcd at this; exact (Nat.gcd_comm _ _).trans this
  exact Int.natAbs_dvd_natAbs.mp (Nat.Coprime.dvd_of_dvd_mul_left hc' q)
theorem not_dvd_small {n x : Int} (h1 : 1 ≤ x) (h2 : x < n) : ¬ n ∣ x := fun h => by
  have := Int.le_of_dvd (by omega) h; omega
def up (a n k : Int) : Bool := decide (n < 2 * (a * k % n))
def red (a n k : Int) : Int := if up a n k = true then n - a * k % n else a * k % n
def ep (a n k : Int) : Int := if up a n k = true then -1 else 1
section
variable {a b n : Int} {h : Nat}
theorem red_mem (hn : n = 2 * h + 1) (hc : Int.gcd a n = 1) {k : Int} (hk : k ∈ seg h) : red a n k ∈ seg h := by
  rw [mem_seg] at hk ⊢
  have h1 := Int.emod_nonneg (a * k) (by omega : n ≠ 0)
  have h2 := Int.emod_lt_of_pos (a * k) (by omega : 0 < n)
  have h3 : a * k % n ≠ 0 := fun z => not_dvd_small hk.1 (by omega) (cop_dvd hc (Int.dvd_of_emod_eq_zero z))
  unfold red up
  by_cases c : n < 2 * (a * k % n)
  · simp only [c, decide_true, if_true]; omega
  · simp only [c, decide_false]; simp; omega
theorem ep_red (hn : 0 < n) (k : Int) : a * k % n = ep a n k * red a n k % n := by
  have h1 := Int.emod_nonneg (a * k) (by omega : n ≠ 0)
  unfold ep red
  cases c : up a n k with
  | false => simp
  | true =>
    simp only [if_true]
    have : -1 * (n - a * k % n) = a * k % n + n * (-1) := by omega
    rw [this, Int.add_mul_emod_self_left]; simp
theorem red_ep (hn : 0 < n) (k : Int) : red a n k % n = ep a n k * (a * k) % n := by
  unfold ep red
  cases c : up a n k with
  | false => simp
  | true =>
    simp only [if_true]
    rw [Int.emod_eq_emod_iff_emod_sub_eq_zero]
    have e : n - a * k % n - -1 * (a * k) = n + (a * k - a * k % n) := by omega
    rw [e]
    have : n ∣ a * k - a * k % n := Int.dvd_self_sub_emod
    exact Int.emod_eq_zero_of_dvd (Int.dvd_add (Int.dvd_refl n) this)
theorem ep_cases (a n k : Int) : ep a n k = 1 ∨ ep a n k = -1 := by unfold ep; split <;> simp
theorem red_inj (hn : n = 2 * h + 1) (hc : Int.gcd a n = 1) {k l : Int} (hk : k ∈ seg h) (hl : l ∈ seg h) (e : red a n k = red a n l) : k = l := by
  rw [mem_seg] at hk hl
  have h0 : 0 < n := by omega
  have e1 : ep a n k * (a * k) % n = ep a n l * (a * l) % n := by rw [← red_ep h0, ← red_ep h0, e]
  have e2 : n ∣ ep a n k * (a * k) - ep a n l * (a * l) := Int.dvd_of_emod_eq_zero (Int.emod_eq_emod_iff_emod_sub_eq_zero.mp e1)
  have key : n ∣ a * (ep a n k * k - ep a n l * l) := by
    rw [Int.mul_sub, Int.mul_left_comm, Int.mul_left_comm a (ep a n l)]; exact e2
  have key := cop_dvd hc key
  rcases ep_cases a n k with x | x <;> rcases ep_cases a n l with y | y <;> rw [x, y] at key
  · rcases Int.lt_trichotomy k l with z | z | z
    · have : n ∣ l - k := by have := Int.dvd_neg.mpr key; have e : -(1 * k - 1 * l) = l - k := by omega
                             rw [e] at this; exact this
      exact absurd this (not_dvd_small (by omega) (by omega))
    · exact z
    · have : n ∣ k - l := by have e : 1 * k - 1 * l = k - l := by omega
                             rw [e] at key; exact key
      exact absurd this (not_dvd_small (by omega) (by omega))
  · have : n ∣ k + l := by have e : 1 * k - -1 * l = k + l := by omega
                           rw [e] at key; exact key
    exact absurd this (not_dvd_small (by omega) (by omega))
  · have : n ∣ k + l := by have := Int.dvd_neg.mpr key; have e : -(-1 * k - 1 * l) = k + l := by omega
                           rw [e] at this; exact this
    exact absurd this (not_dvd_small (by omega) (by omega))
  · rcases Int.lt_trichotomy k l with z | z | z
    · have : n ∣ l - k := by have e : -1 * k - -1 * l = l - k := by omega
                             rw [e] at key; exact key
      exact absurd this (not_dvd_small (by omega) (by omega))
    · exact z
    · have : n ∣ k - l := by have := Int.dvd_neg.mpr key; have e : -(-1 * k - -1 * l) = k - l := by omega
                             rw [e] at this; exact this
      exact absurd this (not_dvd_small (by omega) (by omega))
theorem red_perm (hn : n = 2 * h + 1) (hc : Int.gcd a n = 1) : ((seg h).map (red a n)).Perm (seg h) :=
  perm_self (seg_nodup h) (fun _ hk => red_mem hn hc hk) fun _ hk _ hl e => red_inj hn hc hk hl e
/-- the sign -/
def J (a n : Int) : Int := if Int.gcd a n = 1 then pr (seg (n / 2).toNat) (ep a n) else 0
theorem half_of (hn : n = 2 * h + 1) : (n / 2).toNat = h := by omega
theorem J_of (hn : n = 2 * h + 1) (hc : Int.gcd a n = 1) : J a n = pr (seg h) (ep a n) := by
  unfold J; rw [if_pos hc, half_of hn]
/-- Gauss -/
theorem gauss (hn : n = 2 * h + 1) (hc : Int.gcd a n = 1) : a ^ h * pr (seg h) (fun k => k) % n = J a n * pr (seg h) (fun k => k) % n := by
  have h0 : 0 < n := by omega
  have e1 : a ^ h * pr (seg h) (fun k => k) = pr (seg h) (fun k => a * k) := by rw [pr_mul, pr_const, seg_len]
  rw [e1, J_of hn hc, pr_mod (g := fun k => ep a n k * red a n k) fun k _ => ep_red h0 k, pr_mul]
  congr 2
  rw [← pr_map (f := fun k => k) (s := red a n), pr_perm (red_perm hn hc)]
theorem J_unit (a n : Int) : J a n = 0 ∨ J a n = 1 ∨ J a n = -1 := by
  unfold J
  split
  · right
    have : ∀ l : List Int, pr l (ep a n) = 1 ∨ pr l (ep a n) = -1 := by
      intro l
      induction l with
      | nil => left; rfl
      | cons x l ih =>
        simp only [pr]
        rcases ep_cases a n x with e | e <;> rcases ih with g | g <;> rw [e, g] <;> simp
    exact this _
  · left; rfl
theorem J_mod (a n : Int) : J (a % n) n = J a n := by
  have g : Int.gcd (a % n) n = Int.gcd a n := by rw [Int.emod_def, Int.gcd_sub_mul_left_left]
  unfold J
  rw [g]
  congr 1
  apply pr_congr
  intro k _
  unfold ep up
  have : a % n * k % n = a * k % n := by rw [Int.mul_emod, Int.emod_emod, ← Int.mul_emod]
  rw [this]
theorem gcd_mul_one {a b n : Int} (ha : Int.gcd a n = 1) (hb : Int.gcd b n = 1) : Int.gcd (a * b) n = 1 := by
  unfold Int.gcd at *
  rw [Int.natAbs_mul]
  exact Nat.Coprime.mul_left ha hb
theorem gcd_of_mul {a b n : Int} (h : Int.gcd (a * b) n = 1) : Int.gcd a n = 1 ∧ Int.gcd b n = 1 := by
  unfold Int.gcd at *
  rw [Int.natAbs_mul] at h
  exact ⟨Nat.Coprime.coprime_mul_right h, Nat.Coprime.coprime_mul_left h⟩
theorem up_neg (hn : n = 2 * h + 1) {x y : Int} (hx : ¬ n ∣ x) (e : y % n = (-1 * x) % n) : (decide (n < 2 * (y % n))) = !decide (n < 2 * (x % n)) := by
  have h1 := Int.emod_nonneg x (by omega : n ≠ 0)
  have h2 := Int.emod_lt_of_pos x (by omega : 0 < n)
  have h3 : x % n ≠ 0 := fun z => hx (Int.dvd_of_emod_eq_zero z)
  have e2 : y % n = n - x % n := by
    rw [e]
    have : -1 * x = (n - x % n) + n * (-1 - x / n) := by
      have := Int.mul_ediv_add_emod x n
      rw [Int.mul_sub]; omega
    rw [this, Int.add_mul_emod_self_left]
    exact Int.emod_eq_of_lt (by omega) (by omega)
  rw [e2]
  by_cases c : n < 2 * (x % n)
  · have : ¬ n < 2 * (n - x % n) := by omega
    simp [c, this]
  · have : n < 2 * (n - x % n) := by omega
    simp [c, this]
theorem ep_mul (hn : n = 2 * h + 1) (ha : Int.gcd a n = 1) (hb : Int.gcd b n = 1) {k : Int} (hk : k ∈ seg h) : ep (a * b) n k = ep a n (red b n k) * ep b n k := by
  have h0 : 0 < n := by omega
  have hr := mem_seg.mp (red_mem hn hb hk)
  have e1 := ep_red (a := b) h0 k
  have e2 : a * b * k % n = a * (ep b n k * red b n k) % n := by
    rw [Int.mul_assoc, Int.mul_emod, e1, ← Int.mul_emod]
  rcases ep_cases b n k with x | x
  · rw [x] at e2 ⊢
    rw [Int.one_mul] at e2
    unfold ep up
    rw [e2]; simp
  · rw [x] at e2 ⊢
    have hd : ¬ n ∣ a * red b n k := fun z => not_dvd_small hr.1 (by omega) (cop_dvd ha z)
    have e3 : a * b * k % n = (-1 * (a * red b n k)) % n := by rw [e2, Int.mul_left_comm]
    have := up_neg hn hd e3
    unfold ep up
    rw [this]
    cases decide (n < 2 * (a * red b n k % n)) <;> simp
theorem J_mul (hn : n = 2 * h + 1) : J (a * b) n = J a n * J b n := by
  by_cases hab : Int.gcd (a * b) n = 1
  · obtain ⟨ha, hb⟩ := gcd_of_mul hab
    rw [J_of hn hab, J_of hn ha, J_of hn hb, pr_congr fun k hk => ep_mul hn ha hb hk, pr_mul]
    congr 1
    rw [← pr_map (f := ep a n) (s := red b n), pr_perm (red_perm hn hb)]
  · have : J (a * b) n = 0 := by unfold J; rw [if_neg hab]
    rw [this]
    by_cases ha : Int.gcd a n = 1
    · have hb : Int.gcd b n ≠ 1 := fun hb => hab (gcd_mul_one ha hb)
      have : J b n = 0 := by unfold J; rw [if_neg hb]
      rw [this]; simp
    · have : J a n = 0 := by unfold J; rw [if_neg ha]
      rw [this]; simp
/-! ### two -/
theorem pr_two {t : Int} : ∀ {h : Nat}, 0 ≤ t → t ≤ h → pr (seg h) (fun k => if k ≤ t then 1 else -1) = (-1) ^ (h - t.toNat)
  | 0, h0, h1 => by simp [seg, pr]
  | h + 1, h0, h1 => by
    simp only [seg, pr]
    by_cases c : t ≤ h
    · rw [if_neg (by omega), pr_two h0 c]
      have : h + 1 - t.toNat = (h - t.toNat) + 1 := by omega
      rw [this, Int.pow_succ]; omega
    · have e : t = (h : Int) + 1 := by push_cast at h1; omega
      have : pr (seg h) (fun k => if k ≤ t then 1 else -1) = pr (seg h) (fun _ => 1) := pr_congr fun a ha => by
        have := mem_seg.mp ha
        rw [if_pos (by omega)]
      rw [if_pos (by omega), this, pr_const, Int.one_pow]
      have : h + 1 - t.toNat = 0 := by omega
      rw [this]; rfl
theorem neg_one_pow (k : Nat) : (-1 : Int) ^ k = if k % 2 = 0 then 1 else -1 := by
  induction k with
  | zero => rfl
  | succ k ih =>
    rw [Int.pow_succ, ih]
    by_cases c : k % 2 = 0
    · rw [if_pos c, if_neg (by omega)]; rfl
    · rw [if_neg c, if_pos (by omega)]; rfl
theorem gcd_two (hn : n = 2 * h + 1) : Int.gcd 2 n = 1 := by
  unfold Int.gcd
  have : n.natAbs = 2 * h + 1 := by omega
  rw [this]
  show Nat.gcd 2 (2 * h + 1) = 1
  rw [Nat.gcd_rec]
  have : (2 * h + 1) % 2 = 1 := by omega
  rw [this]; rfl
theorem J_two (hn : n = 2 * h + 1) : J 2 n = if n % 8 = 3 ∨ n % 8 = 5 then -1 else 1 := by
  rw [J_of hn (gcd_two hn)]
  have e : pr (seg h) (ep 2 n) = pr (seg h) (fun k => if k ≤ (h / 2 : Nat) then 1 else -1) := pr_congr fun k hk => by
    have hk := mem_seg.mp hk
    have e1 : 2 * k % n = 2 * k := Int.emod_eq_of_lt (by omega) (by omega)
    unfold ep up
    rw [e1]
    by_cases c : k ≤ (h / 2 : Nat)
    · have : ¬ n < 2 * (2 * k) := by omega
      rw [if_pos c]; simp [this]
    · have : n < 2 * (2 * k) := by omega
      rw [if_neg c]; simp [this]
  rw [e, pr_two (by omega) (by omega), neg_one_pow]
  have e2 : ((h / 2 : Nat) : Int).toNat = h / 2 := by omega
  rw [e2]
  by_cases c : n % 8 = 3 ∨ n % 8 = 5
  · rw [if_pos c, if_neg (by omega)]
  · rw [if_neg c, if_pos (by omega)]
/-! ### reciprocity -/
def par (x : Int) : Int := if x % 2 = 0 then 1 else -1
theorem par_add (x y : Int) : par (x + y) = par x * par y := by
  unfold par
  by_cases c : x % 2 = 0 <;> by_cases d : y % 2 = 0
  · rw [if_pos c, if_pos d, if_pos (by omega)]; rfl
  · rw [if_pos c, if_neg d, if_neg (by omega)]; rfl
  · rw [if_neg c, if_pos d, if_neg (by omega)]; rfl
  · rw [if_neg c, if_neg d, if_pos (by omega)]; rfl
theorem par_ep (l : List Int) : par (sm l fun k => if up a n k = true then 1 else 0) = pr l (ep a n) := by
  induction l with
  | nil => rfl
  | cons x l ih =>
    simp only [sm, pr]
    rw [par_add, ih]
    unfold ep
    cases up a n x <;> simp [par]
/-- the sum of the quotients -/
def Fl (m n : Int) (h : Nat) : Int := sm (seg h) fun k => m * k / n
theorem even_mul {x y : Int} (hx : x % 2 = 1) : (x * y) % 2 = y % 2 := by rw [Int.mul_emod, hx, Int.one_mul, Int.emod_emod]
theorem par_Fl (hn : n = 2 * h + 1) (hm : a % 2 = 1) (hc : Int.gcd a n = 1) : par (Fl a n h) = J a n := by
  rw [J_of hn hc, ← par_ep]
  have h0 : 0 < n := by omega
  have e1 : sm (seg h) (fun k => a * k) = sm (seg h) (fun k => n * (a * k / n) + a * k % n) := sm_congr fun k _ => (Int.mul_ediv_add_emod (a * k) n).symm
  rw [sm_mul, sm_add, sm_mul] at e1
  have e2 : sm (seg h) (fun k => a * k % n) = sm (seg h) (fun k => red a n k + (if up a n k = true then 1 else 0) * (n - 2 * red a n k)) := sm_congr fun k _ => by
    unfold red
    cases c : up a n k <;> simp; omega
  have e3 : sm (seg h) (fun k => red a n k) = sm (seg h) (fun k => k) := by
    rw [← sm_map (f := fun k => k) (s := red a n), sm_perm (red_perm hn hc)]
  rw [sm_add, e3] at e2
  have e4 : (sm (seg h) fun k => (if up a n k = true then 1 else 0) * (n - 2 * red a n k)) % 2 = (sm (seg h) fun k => if up a n k = true then 1 else 0) % 2 := by
    generalize seg h = l
    induction l with
    | nil => rfl
    | cons x l ih =>
      simp only [sm]
      have : ((if up a n x = true then (1 : Int) else 0) * (n - 2 * red a n x)) % 2 = (if up a n x = true then (1 : Int) else 0) % 2 := by
        cases up a n x <;> simp; omega
      omega
  have e5 := even_mul (x := a) (y := sm (seg h) fun k => k) hm
  have e6 := even_mul (x := n) (y := sm (seg h) fun k => a * k / n) (by omega)
  have e7 : (sm (seg h) fun k => a * k / n) % 2 = (sm (seg h) fun k => if up a n k = true then 1 else 0) % 2 := by omega
  unfold par Fl
  rw [e7]
theorem Fl_count {m : Int} {hm : Nat} (hn : n = 2 * h + 1) (hM : m = 2 * hm + 1) : Fl m n h = sm (seg h) fun k => sm (seg hm) fun j => if n * j ≤ m * k then 1 else 0 := by
  unfold Fl
  apply sm_congr
  intro k hk
  have hk := mem_seg.mp hk
  have h0 : 0 < n := by omega
  have hmk : 0 ≤ m * k := Int.mul_nonneg (by omega) (by omega)
  have e : (sm (seg hm) fun j => if n * j ≤ m * k then (1 : Int) else 0) = sm (seg hm) fun j => if j ≤ m * k / n then 1 else 0 := sm_congr fun j _ => by
    have : j ≤ m * k / n ↔ n * j ≤ m * k := by rw [Int.le_ediv_iff_mul_le h0, Int.mul_comm]
    by_cases c : n * j ≤ m * k
    · rw [if_pos c, if_pos (this.mpr c)]
    · rw [if_neg c, if_neg fun z => c (this.mp z)]
  rw [e, count_le (Int.ediv_nonneg hmk (by omega))]
  have h1 : m * k / n < hm + 1 := by
    apply Int.ediv_lt_of_lt_mul h0
    have h2 : m * k ≤ m * h := Int.mul_le_mul_of_nonneg_left (by omega) (by omega)
    subst hn hM
    have h3 : (2 * (hm : Int) + 1) * h = 2 * (hm * h) + h := by rw [Int.add_mul, Int.mul_assoc]; omega
    have h4 : ((hm : Int) + 1) * (2 * h + 1) = 2 * (hm * h) + hm + (2 * h + 1) := by rw [Int.add_mul, Int.mul_add, Int.mul_left_comm]; omega
    omega
  omega
theorem lattice {m : Int} {hm : Nat} (hn : n = 2 * h + 1) (hM : m = 2 * hm + 1) (hc : Int.gcd m n = 1) : Fl m n h + Fl n m hm = h * hm := by
  rw [Fl_count hn hM, Fl_count hM hn, sm_swap (l := seg hm), ← sm_add]
  have : (sm (seg h) fun k => (sm (seg hm) fun j => if n * j ≤ m * k then (1 : Int) else 0) + sm (seg hm) fun j => if m * k ≤ n * j then 1 else 0) = sm (seg h) fun _ => (hm : Int) := sm_congr fun k hk => by
    have hk := mem_seg.mp hk
    rw [← sm_add]
    have : (sm (seg hm) fun j => (if n * j ≤ m * k then (1 : Int) else 0) + if m * k ≤ n * j then 1 else 0) = sm (seg hm) fun _ => 1 := sm_congr fun j hj => by
      have hj := mem_seg.mp hj
      have hne : n * j ≠ m * k := fun z => by
        have : n ∣ m * k := ⟨j, z.symm⟩
        exact not_dvd_small hk.1 (by omega) (cop_dvd hc this)
      rcases Int.lt_or_le (n * j) (m * k) with c | c
      · rw [if_pos (by omega), if_neg (by omega)]; rfl
      · rw [if_neg (by omega), if_pos c]; rfl
    rw [this, sm_const, seg_len]; simp
  rw [this, sm_const, seg_len, Int.mul_comm]
/-- reciprocity: the sign is kept but where both leave 3 by 4 -/
theorem recip {m : Int} {hm : Nat} (hn : n = 2 * h + 1) (hM : m = 2 * hm + 1) : J m n = if m % 4 = 3 ∧ n % 4 = 3 then - J n m else J n m := by
  by_cases hc : Int.gcd m n = 1
  · have hc' : Int.gcd n m = 1 := by rw [Int.gcd_comm]; exact hc
    have e1 := par_Fl hn (by omega : m % 2 = 1) hc
    have e2 := par_Fl hM (by omega : n % 2 = 1) hc'
    have e3 := lattice hn hM hc
    have e4 : J m n * J n m = par (h * hm) := by rw [← e1, ← e2, ← par_add, e3]
    have e5 : par (h * hm) = if m % 4 = 3 ∧ n % 4 = 3 then -1 else 1 := by
      unfold par
      have : ((h : Int) * hm) % 2 = 0 ↔ ¬ (m % 4 = 3 ∧ n % 4 = 3) := by
        rw [Int.mul_emod]
        rcases (by omega : (h : Int) % 2 = 0 ∨ (h : Int) % 2 = 1) with x | x <;> rcases (by omega : (hm : Int) % 2 = 0 ∨ (hm : Int) % 2 = 1) with y | y <;> rw [x, y] <;> simp <;> omega
      by_cases c : m % 4 = 3 ∧ n % 4 = 3
      · rw [if_pos c, if_neg (fun z => this.mp z c)]
      · rw [if_neg c, if_pos (this.mpr c)]
    rw [e5] at e4
    have u1 := J_unit m n
    have u2 := J_unit n m
    by_cases c : m % 4 = 3 ∧ n % 4 = 3
    · rw [if_pos c] at e4 ⊢
      rcases u1 with x | x | x <;> rcases u2 with y | y | y <;> rw [x, y] at e4 ⊢ <;> simp at e4 ⊢
    · rw [if_neg c] at e4 ⊢
      rcases u1 with x | x | x <;> rcases u2 with y | y | y <;> rw [x, y] at e4 ⊢ <;> simp at e4 ⊢
  · have hc' : Int.gcd n m ≠ 1 := by rw [Int.gcd_comm]; exact hc
    unfold J
    rw [if_neg hc, if_neg hc']
    simp
end
end NT

end

section
set_option autoImplicit false
set_option autoImplicit false
/-! Euler's criterion, Fermat, Proth -/
namespace NT
theorem Pm.not_dvd_mul {p a b : Int} (hp : Pm p) (ha : ¬ p ∣ a) (hb : ¬ p ∣ b) : ¬ p ∣ a * b := fun h => by
  rcases hp.euclid h with z | z
  · exact ha z
  · exact hb z
theorem Pm.gcd_one {p a : Int} (hp : Pm p) (ha : ¬ p ∣ a) : Int.gcd a p = 1 := by
  have h1 : (Int.gcd a p : Int) ∣ p := Int.gcd_dvd_right ..
  have h2 : (Int.gcd a p : Int) ∣ a := Int.gcd_dvd_left ..
  have h0 : 0 < Int.gcd a p := Int.gcd_pos_of_ne_zero_right _ (by have := hp.1; omega)
  have hle : (Int.gcd a p : Int) ≤ p := Int.le_of_dvd (by have := hp.1; omega) h1
  apply Classical.byContradiction
  intro h
  by_cases c : (Int.gcd a p : Int) = p
  · rw [c] at h2; exact ha h2
  · exact hp.2 _ (by omega) (by omega) h1
theorem Pm.pr_not {p : Int} (hp : Pm p) : ∀ {h : Nat}, (h : Int) < p → ¬ p ∣ pr (seg h) (fun k => k)
  | 0, _ => by
    intro z
    have := Int.le_of_dvd (by decide) z
    have := hp.1
    simp [seg, pr] at *
    omega
  | h + 1, hh => by
    simp only [seg, pr]
    exact hp.not_dvd_mul (not_dvd_small (by omega) (by push_cast at hh; omega)) (hp.pr_not (by push_cast at hh; omega))
theorem emod_eq_iff {a b n : Int} : a % n = b % n ↔ n ∣ a - b := by
  rw [Int.emod_eq_emod_iff_emod_sub_eq_zero]
  exact ⟨Int.dvd_of_emod_eq_zero, Int.emod_eq_zero_of_dvd⟩
/-- Euler -/
theorem Pm.euler {p a : Int} {h : Nat} (hp : Pm p) (hn : p = 2 * h + 1) (h0 : 0 < h) : a ^ h % p = J a p % p := by
  by_cases ha : p ∣ a
  · have e : J a p = 0 := by
      unfold J
      rw [if_neg]
      intro z
      have : p ∣ 1 := by rw [← (show ((Int.gcd a p : Nat) : Int) = 1 by rw [z]; rfl)]; exact Int.dvd_coe_gcd ha (Int.dvd_refl p)
      have := Int.le_of_dvd (by decide) this
      have := hp.1; omega
    rw [e]
    obtain ⟨k, rfl⟩ : ∃ k, h = k + 1 := ⟨h - 1, by omega⟩
    rw [Int.pow_succ]
    have : p ∣ a ^ k * a := Int.dvd_trans ha (Int.dvd_mul_left ..)
    rw [Int.emod_eq_zero_of_dvd this]; simp
  · have hc := hp.gcd_one ha
    have g := gauss hn hc
    rw [emod_eq_iff] at g ⊢
    rw [← Int.sub_mul] at g
    rcases hp.euclid g with z | z
    · exact z
    · exact absurd z (hp.pr_not (by omega))
theorem Pm.J_ne {p a : Int} (hp : Pm p) (ha : ¬ p ∣ a) : J a p = 1 ∨ J a p = -1 := by
  rcases J_unit a p with h | h | h
  · exfalso
    unfold J at h
    rw [if_pos (hp.gcd_one ha)] at h
    have : ∀ l : List Int, pr l (ep a p) ≠ 0 := by
      intro l
      induction l with
      | nil => simp [pr]
      | cons x l ih =>
        simp only [pr]
        rcases ep_cases a p x with e | e <;> rw [e] <;> simp [ih]
    exact this _ h
  · exact .inl h
  · exact .inr h
/-- Fermat, for odd primes -/
theorem Pm.fermat {p a : Int} {h : Nat} (hp : Pm p) (hn : p = 2 * h + 1) (h0 : 0 < h) (ha : ¬ p ∣ a) : p ∣ a ^ (2 * h) - 1 := by
  have e := hp.euler (a := a) hn h0
  rw [emod_eq_iff] at e
  have : a ^ (2 * h) - 1 = (a ^ h - J a p) * (a ^ h + J a p) := by
    have j : J a p * J a p = 1 := by rcases hp.J_ne ha with x | x <;> rw [x] <;> rfl
    rw [Nat.mul_comm, Int.pow_mul, Int.pow_succ, Int.pow_succ, Int.pow_zero, Int.one_mul, Int.sub_mul, Int.mul_add, Int.mul_add, j, Int.mul_comm (J a p)]
    omega
  rw [this]
  exact Int.dvd_trans e (Int.dvd_mul_right ..)
/-- what is no prime has a prime divisor up to its root -/
theorem prime_div {n : Int} (h2 : 2 ≤ n) (hn : ¬ Pm n) : ∃ q, Pm q ∧ q ∣ n ∧ q * q ≤ n := by
  have hx : ∃ x, 2 ≤ x ∧ x * x ≤ n ∧ x ∣ n := by
    apply Classical.byContradiction
    intro z
    exact hn ((Pm_iff h2).mpr fun x a b c => z ⟨x, a, b, c⟩)
  have key : ∀ (k : Nat) (x : Int), x ≤ k → 2 ≤ x → x * x ≤ n → x ∣ n → ∃ q, Pm q ∧ q ∣ n ∧ q * q ≤ n := by
    intro k
    induction k with
    | zero => intro x h1 h2; omega
    | succ k ih =>
      intro x h1 h2 h3 h4
      by_cases c : Pm x
      · exact ⟨x, c, h4, h3⟩
      · have : ∃ d, 2 ≤ d ∧ d < x ∧ d ∣ x := by
          apply Classical.byContradiction
          intro z
          exact c ⟨h2, fun d a b e => z ⟨d, a, b, e⟩⟩
        obtain ⟨d, d1, d2, d3⟩ := this
        have : d * d ≤ x * x := Int.mul_le_mul (by omega) (by omega) (by omega) (by omega)
        exact ih d (by push_cast at h1; omega) d1 (by omega) (Int.dvd_trans d3 h4)
  obtain ⟨x, a, b, c⟩ := hx
  exact key x.toNat x (by omega) a b c
theorem two_split : ∀ (n : Nat), 0 < n → ∃ j m, n = 2 ^ j * m ∧ m % 2 = 1 := by
  intro n
  induction n using Nat.strongRecOn with
  | ind n ih =>
    intro h
    by_cases c : n % 2 = 1
    · exact ⟨0, n, by simp, c⟩
    · obtain ⟨j, m, e, hm⟩ := ih (n / 2) (by omega) (by omega)
      refine ⟨j + 1, m, ?_, hm⟩
      rw [Nat.pow_succ, Nat.mul_comm (2 ^ j) 2, Nat.mul_assoc, ← e]; omega
theorem pow_dvd_sub {q a b : Int} (h : q ∣ a - b) : ∀ k : Nat, q ∣ a ^ k - b ^ k
  | 0 => by simp
  | k + 1 => by
    have ih := pow_dvd_sub h k
    have : a ^ (k + 1) - b ^ (k + 1) = (a ^ k - b ^ k) * a + b ^ k * (a - b) := by
      rw [Int.pow_succ, Int.pow_succ, Int.sub_mul, Int.mul_sub]; omega
    rw [this]
    exact Int.dvd_add (Int.dvd_trans ih (Int.dvd_mul_right ..)) (Int.dvd_trans h (Int.dvd_mul_left ..))
/-- a power of two as order -/
theorem order_two {q x : Int} {h p : Nat} (hq : Pm q) (hn : q = 2 * h + 1) (h0 : 0 < h) (hx : ¬ q ∣ x) (hm : q ∣ x ^ (2 ^ p) + 1) : (2 : Int) ^ (p + 1) ≤ q - 1 := by
  obtain ⟨j, m, e, hm1⟩ := two_split (2 * h) (by omega)
  have hf := hq.fermat hn h0 hx
  rcases Nat.lt_or_ge p j with c | c
  · have h1 : 2 ^ (p + 1) ≤ 2 ^ j := Nat.pow_le_pow_right (by decide) c
    have h2 : 2 ^ j * 1 ≤ 2 ^ j * m := Nat.mul_le_mul_left _ (by omega)
    have h3 : ((2 ^ (p + 1) : Nat) : Int) = (2 : Int) ^ (p + 1) := by rw [Int.natCast_pow]; rfl
    omega
  · exfalso
    obtain ⟨r, rfl⟩ : ∃ r, p = j + r := ⟨p - j, by omega⟩
    have h1 := pow_dvd_sub hf (2 ^ r)
    rw [Int.one_pow, ← Int.pow_mul, e] at h1
    have e2 : 2 ^ j * m * 2 ^ r = 2 ^ (j + r) * m := by rw [Nat.pow_add]; rw [Nat.mul_right_comm]
    rw [e2, Int.pow_mul] at h1
    have h2 : q ∣ x ^ (2 ^ (j + r)) - (-1) := by rw [Int.sub_neg]; exact hm
    have h3 := pow_dvd_sub h2 m
    rw [neg_one_pow, if_neg (by omega)] at h3
    have h4 := Int.dvd_sub h3 h1
    have e5 : (x ^ 2 ^ (j + r)) ^ m - -1 - ((x ^ 2 ^ (j + r)) ^ m - 1) = 2 := by omega
    rw [e5] at h4
    have := Int.le_of_dvd (by decide) h4
    have := hq.1; omega
/-- Proth -/
theorem proth {g f b : Int} {p : Nat} (hg : g = f * 2 ^ (p + 1) + 1) (f1 : 1 ≤ f) (f2 : f < 2 ^ (p + 1)) (hb : b ^ (g / 2).toNat % g = g - 1) : Pm g := by
  have p0 : (0 : Int) < 2 ^ p := by
    have := Int.pow_pos (n := 2) (m := p) (by decide); exact this
  have e1 : (2 : Int) ^ (p + 1) = 2 * 2 ^ p := by rw [Int.pow_succ]; omega
  obtain ⟨F, rfl⟩ : ∃ F : Nat, f = F := ⟨f.toNat, by omega⟩
  have gge : 3 ≤ g := by
    have : 1 * 2 ^ (p + 1) ≤ (F : Int) * 2 ^ (p + 1) := Int.mul_le_mul_of_nonneg_right f1 (by omega)
    omega
  have godd : g = 2 * (F * 2 ^ p) + 1 := by rw [hg, e1, Int.mul_left_comm]
  have ht : (g / 2).toNat = F * 2 ^ p := by
    have e : ((F * 2 ^ p : Nat) : Int) = (F : Int) * 2 ^ p := by push_cast; rfl
    omega
  rw [ht] at hb
  apply Classical.byContradiction
  intro hn
  obtain ⟨q, hq, hd, hl⟩ := prime_div (by omega) hn
  have q2 : q % 2 = 1 := by
    rcases (by omega : q % 2 = 0 ∨ q % 2 = 1) with z | z
    · exfalso
      have : 2 ∣ g := Int.dvd_trans (Int.dvd_of_emod_eq_zero z) hd
      omega
    · exact z
  obtain ⟨h, hh⟩ : ∃ h : Nat, q = 2 * h + 1 := ⟨(q / 2).toNat, by have := hq.1; omega⟩
  have h0 : 0 < h := by have := hq.1; omega
  have k1 : g ∣ b ^ (F * 2 ^ p) - (-1) := by
    rw [← emod_eq_iff, hb]
    have : (-1 : Int) = (g - 1) + g * (-1) := by omega
    rw [this, Int.add_mul_emod_self_left, Int.emod_eq_of_lt (by omega) (by omega)]
  have k2 : q ∣ (b ^ F) ^ (2 ^ p) + 1 := by
    rw [← Int.pow_mul]
    have := Int.dvd_trans hd k1
    rw [Int.sub_neg] at this; exact this
  have k3 : ¬ q ∣ b ^ F := fun z => by
    have : q ∣ (b ^ F) ^ (2 ^ p) := by
      obtain ⟨k, hk⟩ : ∃ k, 2 ^ p = k + 1 := ⟨2 ^ p - 1, by have := Nat.pow_pos (n := p) (show 0 < 2 by decide); omega⟩
      rw [hk, Int.pow_succ]; exact Int.dvd_trans z (Int.dvd_mul_left ..)
    have h1 := Int.dvd_sub k2 this
    have e : (b ^ F) ^ 2 ^ p + 1 - (b ^ F) ^ 2 ^ p = 1 := by omega
    rw [e] at h1
    have := Int.le_of_dvd (by decide) h1
    have := hq.1; omega
  have k4 := order_two hq hh h0 k3 k2
  have k5 : (2 ^ (p + 1) + 1) * (2 ^ (p + 1) + 1) ≤ q * q := Int.mul_le_mul (by omega) (by omega) (by omega) (by omega)
  have k6 : (F : Int) * 2 ^ (p + 1) ≤ 2 ^ (p + 1) * 2 ^ (p + 1) := Int.mul_le_mul_of_nonneg_right (by omega) (by omega)
  have k7 : ((2 : Int) ^ (p + 1) + 1) * (2 ^ (p + 1) + 1) = 2 ^ (p + 1) * 2 ^ (p + 1) + 2 * 2 ^ (p + 1) + 1 := by rw [Int.add_mul, Int.mul_add]; omega
  omega
end NT

end

section
set_option autoImplicit false
set_option autoImplicit false
/-! the sign by steps -/
namespace NT
def fl (b s : Int) : Int := if b % 8 = 3 ∨ b % 8 = 5 then -s else s
def tw (b : Int) : Nat → Int → Int → Int × Int
  | 0, t, s => (t, s)
  | k + 1, t, s => if t % 2 = 0 then tw b k (t / 2) (fl b s) else (t, s)
theorem tw_spec {b : Int} : ∀ (k : Nat) (t s : Int), 0 < t → t ≤ k → (tw b k t s).1 % 2 = 1 ∧ 0 < (tw b k t s).1 ∧ (tw b k t s).1 ≤ t
  | 0, t, s, h, hk => by omega
  | k + 1, t, s, h, hk => by
    unfold tw
    split
    · obtain ⟨a, c, d⟩ := tw_spec (b := b) k (t / 2) (fl b s) (by omega) (by omega)
      exact ⟨a, c, by omega⟩
    · exact ⟨by omega, by omega, by omega⟩
def rec4 (t b s : Int) : Int := if t % 4 = 3 ∧ b % 4 = 3 then -s else s
def sl : Nat → Int → Int → Int → Int × Int
  | 0, _, b, s => (s, b)
  | k + 1, t, b, s => if t = 0 then (s, b) else
    let w := tw b t.toNat t s
    sl k (b % w.1) w.1 (rec4 w.1 b w.2)
def sgn (a g : Int) : Int := let r := sl (g.toNat + 1) (a % g) g 1; if r.2 = 1 then r.1 else 0
theorem tw_J {b : Int} (hb : b % 2 = 1) (h0 : 0 < b) : ∀ (k : Nat) (t s : Int), (tw b k t s).2 * J (tw b k t s).1 b = s * J t b
  | 0, t, s => rfl
  | k + 1, t, s => by
    unfold tw
    split
    · rename_i c
      rw [tw_J hb h0 k (t / 2) (fl b s)]
      obtain ⟨h, hh⟩ : ∃ h : Nat, b = 2 * h + 1 := ⟨(b / 2).toNat, by omega⟩
      have e : J t b = J 2 b * J (t / 2) b := by
        rw [← J_mul hh]; congr 1; omega
      rw [e, J_two hh]
      unfold fl
      by_cases d : b % 8 = 3 ∨ b % 8 = 5
      · rw [if_pos d, if_pos d, Int.neg_mul, Int.neg_mul, Int.one_mul, Int.mul_neg]
      · rw [if_neg d, if_neg d, Int.one_mul]
    · rfl
theorem J_zero {b : Int} (h0 : 0 < b) : J 0 b = if b = 1 then 1 else 0 := by
  unfold J
  have : Int.gcd 0 b = b.natAbs := by simp
  rw [this]
  by_cases c : b = 1
  · subst c; rfl
  · rw [if_neg (by omega), if_neg c]
theorem sl_J : ∀ (k : Nat) (t b s : Int), 0 ≤ t → t < k → b % 2 = 1 → 0 < b → (if (sl k t b s).2 = 1 then (sl k t b s).1 else 0) = s * J t b
  | 0, t, b, s, h, hk, _, _ => by omega
  | k + 1, t, b, s, h, hk, hb, h0 => by
    by_cases c : t = 0
    · subst c
      rw [J_zero h0]
      simp only [sl, if_true]
      by_cases d : b = 1 <;> simp [d]
    · obtain ⟨w1, w2, w3⟩ := tw_spec (b := b) t.toNat t s (by omega) (by omega)
      have j := tw_J hb h0 t.toNat t s
      obtain ⟨t', ht'⟩ : ∃ t', t' = (tw b t.toNat t s).1 := ⟨_, rfl⟩
      obtain ⟨s', hs'⟩ : ∃ s', s' = (tw b t.toNat t s).2 := ⟨_, rfl⟩
      have e : sl (k + 1) t b s = sl k (b % t') t' (rec4 t' b s') := by rw [sl, if_neg c, ht', hs']
      rw [← ht'] at w1 w2 w3 j
      rw [← hs'] at j
      have h1 := Int.emod_nonneg b (by omega : t' ≠ 0)
      have h2 := Int.emod_lt_of_pos b w2
      rw [e, sl_J k (b % t') t' (rec4 t' b s') h1 (by omega) w1 w2, J_mod, ← j]
      obtain ⟨x, hx⟩ : ∃ h : Nat, b = 2 * h + 1 := ⟨(b / 2).toNat, by omega⟩
      obtain ⟨y, hy⟩ : ∃ h : Nat, t' = 2 * h + 1 := ⟨(t' / 2).toNat, by omega⟩
      rw [recip hx hy]
      unfold rec4
      by_cases d : t' % 4 = 3 ∧ b % 4 = 3
      · rw [if_pos d, if_pos d, Int.neg_mul, Int.mul_neg]
      · rw [if_neg d, if_neg d]
theorem sgn_J {a g : Int} (h0 : 0 < g) (hg : g % 2 = 1) : sgn a g = J a g := by
  have h1 := Int.emod_nonneg a (by omega : g ≠ 0)
  have h2 := Int.emod_lt_of_pos a h0
  have := sl_J (g.toNat + 1) (a % g) g 1 h1 (by omega) hg h0
  rw [J_mod, Int.one_mul] at this
  exact this
/-- by a prime the sign is the half power -/
theorem sgn_prime {a g : Int} (hp : Pm g) (h3 : 3 ≤ g) (hg : g % 2 = 1) : (sgn a g = 1 ↔ a ^ (g / 2).toNat % g = 1) ∧ (sgn a g = -1 ↔ a ^ (g / 2).toNat % g = g - 1) ∧ (sgn a g = 0 ↔ g ∣ a) := by
  have e := hp.euler (a := a) (h := (g / 2).toNat) (by omega) (by omega)
  rw [sgn_J (by omega) hg, e]
  have m1 : (-1) % g = g - 1 := by
    have : (-1 : Int) = (g - 1) + g * (-1) := by omega
    rw [this, Int.add_mul_emod_self_left, Int.emod_eq_of_lt (by omega) (by omega)]
  have m2 : (1 : Int) % g = 1 := Int.emod_eq_of_lt (by omega) (by omega)
  by_cases ha : g ∣ a
  · have j : J a g = 0 := by
      have h := J_mod a g
      rw [Int.emod_eq_zero_of_dvd ha, J_zero (by omega), if_neg (by omega)] at h
      exact h.symm
    rw [j]
    simp [ha]; omega
  · rcases hp.J_ne ha with j | j <;> rw [j]
    · rw [m2]; simp [ha]; omega
    · rw [m1]; simp [ha]; omega
end NT

end

section
set_option autoImplicit false
set_option autoImplicit false
namespace NT
/-- the least divisor from 2 on -/
def LD (n r : Int) : Prop := 2 ≤ r ∧ r ∣ n ∧ ∀ d, 2 ≤ d → d < r → ¬ d ∣ n
theorem LD.uniq {n r s : Int} (a : LD n r) (b : LD n s) : r = s := by
  rcases Int.lt_trichotomy r s with h | h | h
  · exact absurd a.2.1 (b.2.2 r a.1 h)
  · exact h
  · exact absurd b.2.1 (a.2.2 s b.1 h)
theorem LD.prime {n r : Int} (h : LD n r) : Pm r := ⟨h.1, fun d d1 d2 d3 => h.2.2 d d1 d2 (Int.dvd_trans d3 h.2.1)⟩
theorem LD.pmb {n r : Int} (h : LD n r) (h2 : 2 ≤ n) : pmb n = decide (r = n) := by
  by_cases c : r = n
  · subst c
    simp only [decide_true]
    exact pmb_iff.mpr h.prime
  · simp only [c, decide_false]
    cases e : NT.pmb n with
    | false => rfl
    | true =>
      have := pmb_iff.mp e
      have := Int.le_of_dvd (by omega) h.2.1
      exact absurd h.2.1 ((pmb_iff.mp e).2 r h.1 (by omega))
theorem LD.end {n p : Int} (h2 : 2 ≤ n) (hp : 2 ≤ p) (hn : n < p * p) (h : ∀ d, 2 ≤ d → d < p → ¬ d ∣ n) : LD n n := by
  refine ⟨h2, Int.dvd_refl n, fun d d1 d2 d3 => ?_⟩
  obtain ⟨e, he⟩ := d3
  have e0 : 0 < e := by
    rcases Int.lt_or_le 0 e with w | w
    · exact w
    · have : d * e ≤ 0 := Int.mul_nonpos_of_nonneg_of_nonpos (by omega) w
      omega
  have e1 : e ≠ 1 := fun z => by subst z; omega
  rcases Int.lt_or_le d p with w | w
  · exact h d d1 w ⟨e, he⟩
  · rcases Int.lt_or_le e p with v | v
    · exact h e (by omega) v ⟨d, by rw [Int.mul_comm]; exact he⟩
    · have : p * p ≤ d * e := Int.mul_le_mul w v (by omega) (by omega)
      omega
theorem dvd_of_two {d n : Int} (h : d % 2 = 0) (hn : n % 2 ≠ 0) : ¬ d ∣ n := fun z => by
  have : 2 ∣ n := Int.dvd_trans (Int.dvd_of_emod_eq_zero h) z
  omega
theorem dvd_of_three {d n : Int} (h : d % 3 = 0) (hn : n % 3 ≠ 0) : ¬ d ∣ n := fun z => by
  have : 3 ∣ n := Int.dvd_trans (Int.dvd_of_emod_eq_zero h) z
  omega
theorem not_dvd_of {d n : Int} (h : n % d ≠ 0) : ¬ d ∣ n := fun z => h (Int.emod_eq_zero_of_dvd z)
theorem ex_LD {n : Int} (h2 : 2 ≤ n) : ∃ r, LD n r := by
  have key : ∀ (k : Nat) (x : Int), x ≤ k → 2 ≤ x → x ∣ n → ∃ r, LD n r := by
    intro k
    induction k with
    | zero => intro x h1 h2; omega
    | succ k ih =>
      intro x h1 h2 h3
      by_cases c : ∃ d, 2 ≤ d ∧ d < x ∧ d ∣ n
      · obtain ⟨d, d1, d2, d3⟩ := c
        exact ih d (by push_cast at h1; omega) d1 d3
      · exact ⟨x, h2, h3, fun d a b e => c ⟨d, a, b, e⟩⟩
  exact key n.toNat n (by omega) h2 (Int.dvd_refl n)
end NT

end

section
set_option autoImplicit false
set_option autoImplicit false
/-! factors -/
namespace NT
def prodF : List (Int × Nat) → Int
  | [] => 1
  | (p, k) :: l => p ^ k * prodF l
theorem prodF_append : ∀ (l m : List (Int × Nat)), prodF (l ++ m) = prodF l * prodF m
  | [], m => by simp [prodF]
  | (p, k) :: l, m => by simp only [List.cons_append, prodF, prodF_append l m, Int.mul_assoc]
structure Fac (n : Int) (l : List (Int × Nat)) : Prop where
  pm : ∀ q ∈ l, Pm q.1 ∧ 1 ≤ q.2
  asc : l.Pairwise (fun a b => a.1 < b.1)
  eq : prodF l = n
theorem Pm.dvd_pow {p a : Int} (hp : Pm p) : ∀ {k : Nat}, p ∣ a ^ k → p ∣ a
  | 0, h => by
    rw [Int.pow_zero] at h
    have := Int.le_of_dvd (by decide) h
    have := hp.1
    omega
  | k + 1, h => by
    rw [Int.pow_succ] at h
    rcases hp.euclid h with z | z
    · exact hp.dvd_pow z
    · exact z
theorem Pm.dvd_Pm {p q : Int} (hp : Pm p) (hq : Pm q) (h : p ∣ q) : p = q := by
  have := Int.le_of_dvd (by have := hq.1; omega) h
  rcases Int.lt_or_le p q with c | c
  · exact absurd h (hq.2 p hp.1 c)
  · omega
theorem dvd_prodF {p : Int} (hp : Pm p) : ∀ {l : List (Int × Nat)}, (∀ q ∈ l, Pm q.1 ∧ 1 ≤ q.2) → p ∣ prodF l → ∃ k, (p, k) ∈ l
  | [], _, h => by
    have := Int.le_of_dvd (by decide) h
    have := hp.1
    simp [prodF] at *; omega
  | (q, k) :: l, hl, h => by
    simp only [prodF] at h
    rcases hp.euclid h with z | z
    · have := hp.dvd_Pm (hl (q, k) (List.mem_cons_self ..)).1 (hp.dvd_pow z)
      exact ⟨k, by rw [this]; exact List.mem_cons_self ..⟩
    · obtain ⟨k, hk⟩ := dvd_prodF hp (fun x hx => hl x (List.mem_cons_of_mem _ hx)) z
      exact ⟨k, List.mem_cons_of_mem _ hk⟩
theorem prodF_pos : ∀ {l : List (Int × Nat)}, (∀ q ∈ l, Pm q.1 ∧ 1 ≤ q.2) → 0 < prodF l
  | [], _ => by simp [prodF]
  | (q, k) :: l, hl => by
    simp only [prodF]
    have h1 := (hl (q, k) (List.mem_cons_self ..)).1.1
    exact Int.mul_pos (Int.pow_pos (by simp at h1; omega)) (prodF_pos fun x hx => hl x (List.mem_cons_of_mem _ hx))
theorem dvd_mem {p : Int} {k : Nat} : ∀ {l : List (Int × Nat)}, (p, k) ∈ l → p ^ k ∣ prodF l
  | [], h => by cases h
  | (q, j) :: l, h => by
    rcases List.mem_cons.mp h with e | e
    · cases e
      exact Int.dvd_mul_right ..
    · exact Int.dvd_trans (dvd_mem e) (Int.dvd_mul_left ..)
theorem Fac.tail {n : Int} {q : Int × Nat} {l : List (Int × Nat)} (h : Fac n (q :: l)) : Fac (prodF l) l :=
  ⟨fun x hx => h.pm x (List.mem_cons_of_mem _ hx), (List.pairwise_cons.mp h.asc).2, rfl⟩
theorem Fac.not_dvd_tail {n : Int} {p : Int} {k : Nat} {l : List (Int × Nat)} (h : Fac n ((p, k) :: l)) : ¬ p ∣ prodF l := fun z => by
  obtain ⟨j, hj⟩ := dvd_prodF (h.pm (p, k) (List.mem_cons_self ..)).1 (fun x hx => h.pm x (List.mem_cons_of_mem _ hx)) z
  have := (List.pairwise_cons.mp h.asc).1 _ hj
  simp at this
theorem pow_cancel {p a b : Int} (h0 : p ≠ 0) (ha : ¬ p ∣ a) (hb : ¬ p ∣ b) : ∀ {j k : Nat}, p ^ j * a = p ^ k * b → j = k ∧ a = b
  | 0, 0, e => ⟨rfl, by simpa using e⟩
  | 0, k + 1, e => by
    exfalso; apply ha
    rw [Int.pow_zero, Int.one_mul, Int.pow_succ] at e
    rw [e]; exact ⟨p ^ k * b, by rw [Int.mul_comm (p ^ k) p, Int.mul_assoc]⟩
  | j + 1, 0, e => by
    exfalso; apply hb
    rw [Int.pow_zero, Int.one_mul, Int.pow_succ] at e
    rw [← e]; exact ⟨p ^ j * a, by rw [Int.mul_comm (p ^ j) p, Int.mul_assoc]⟩
  | j + 1, k + 1, e => by
    rw [Int.pow_succ, Int.pow_succ, Int.mul_right_comm, Int.mul_right_comm (p ^ k)] at e
    obtain ⟨h1, h2⟩ := pow_cancel h0 ha hb (Int.eq_of_mul_eq_mul_right h0 e)
    exact ⟨by rw [h1], h2⟩
/-- the factors are one row -/
theorem Fac.uniq : ∀ {l m : List (Int × Nat)} {n : Int}, Fac n l → Fac n m → l = m
  | [], [], _, _, _ => rfl
  | [], (q, j) :: m, n, h, g => by
    exfalso
    have e1 : (1 : Int) = n := h.eq
    have d := dvd_mem (l := (q, j) :: m) (List.mem_cons_self ..)
    rw [g.eq, ← e1] at d
    have hq := (g.pm (q, j) (List.mem_cons_self ..))
    have : q ∣ 1 := by
      obtain ⟨i, rfl⟩ : ∃ i, j = i + 1 := ⟨j - 1, by have := hq.2; simp at this; omega⟩
      exact Int.dvd_trans (by rw [Int.pow_succ]; exact Int.dvd_mul_left ..) d
    have := Int.le_of_dvd (by decide) this
    have := hq.1.1
    simp at this; omega
  | (q, j) :: l, [], n, h, g => by
    exfalso
    have e1 : (1 : Int) = n := g.eq
    have d := dvd_mem (l := (q, j) :: l) (List.mem_cons_self ..)
    rw [h.eq, ← e1] at d
    have hq := (h.pm (q, j) (List.mem_cons_self ..))
    have : q ∣ 1 := by
      obtain ⟨i, rfl⟩ : ∃ i, j = i + 1 := ⟨j - 1, by have := hq.2; simp at this; omega⟩
      exact Int.dvd_trans (by rw [Int.pow_succ]; exact Int.dvd_mul_left ..) d
    have := Int.le_of_dvd (by decide) this
    have := hq.1.1
    simp at this; omega
  | (p, i) :: l, (q, j) :: m, n, h, g => by
    have hp := h.pm (p, i) (List.mem_cons_self ..)
    have hq := g.pm (q, j) (List.mem_cons_self ..)
    have dp : p ∣ n := by
      rw [← h.eq]
      obtain ⟨k, e⟩ : ∃ k, i = k + 1 := ⟨i - 1, by have := hp.2; simp at this; omega⟩
      simp only [prodF]; rw [e, Int.pow_succ]
      exact Int.dvd_trans (Int.dvd_mul_left ..) (Int.dvd_mul_right ..)
    have dq : q ∣ n := by
      rw [← g.eq]
      obtain ⟨k, e⟩ : ∃ k, j = k + 1 := ⟨j - 1, by have := hq.2; simp at this; omega⟩
      simp only [prodF]; rw [e, Int.pow_succ]
      exact Int.dvd_trans (Int.dvd_mul_left ..) (Int.dvd_mul_right ..)
    have le1 : q ≤ p := by
      rw [← g.eq] at dp
      obtain ⟨k, hk⟩ := dvd_prodF hp.1 g.pm dp
      rcases List.mem_cons.mp hk with e | e
      · cases e; exact Int.le_refl _
      · have := (List.pairwise_cons.mp g.asc).1 _ e; simp at this; omega
    have le2 : p ≤ q := by
      rw [← h.eq] at dq
      obtain ⟨k, hk⟩ := dvd_prodF hq.1 h.pm dq
      rcases List.mem_cons.mp hk with e | e
      · cases e; exact Int.le_refl _
      · have := (List.pairwise_cons.mp h.asc).1 _ e; simp at this; omega
    have e : p = q := by omega
    subst e
    have e2 : p ^ i * prodF l = p ^ j * prodF m := by
      have h1 := h.eq; have g1 := g.eq
      simp only [prodF] at h1 g1
      rw [h1, g1]
    obtain ⟨k1, k2⟩ := pow_cancel (by have := hp.1.1; simp at this; omega) h.not_dvd_tail g.not_dvd_tail e2
    subst k1
    have := Fac.uniq h.tail (by rw [k2]; exact g.tail)
    rw [this]
theorem prodF_len : ∀ {l : List (Int × Nat)}, (∀ q ∈ l, Pm q.1 ∧ 1 ≤ q.2) → (2 : Int) ^ l.length ≤ prodF l
  | [], _ => by simp [prodF]
  | (q, k) :: l, hl => by
    have ih := prodF_len fun x hx => hl x (List.mem_cons_of_mem _ hx)
    have hq := hl (q, k) (List.mem_cons_self ..)
    have h2 : 2 ≤ q := hq.1.1
    obtain ⟨i, e⟩ : ∃ i, k = i + 1 := ⟨k - 1, by have := hq.2; simp at this; omega⟩
    have h3 : 2 ≤ q ^ k := by
      rw [e, Int.pow_succ]
      have : 1 ≤ q ^ i := Int.pow_pos (by omega)
      have : 1 * q ≤ q ^ i * q := Int.mul_le_mul_of_nonneg_right this (by omega)
      omega
    simp only [prodF, List.length_cons, Int.pow_succ]
    have h4 : (0 : Int) < 2 ^ l.length := Int.pow_pos (by decide)
    have h5 : 2 * 2 ^ l.length ≤ q ^ k * prodF l := Int.mul_le_mul h3 ih (by omega) (by omega)
    omega
theorem few_of {l : List (Int × Nat)} {n : Int} (hl : ∀ q ∈ l, Pm q.1 ∧ 1 ≤ q.2) (h : prodF l ≤ n) (hn : n < 2 ^ 60) : l.length < 1000 := by
  have h1 := prodF_len hl
  apply Classical.byContradiction
  intro w
  have h2 : (2 : Int) ^ 60 ≤ 2 ^ l.length := by
    have := Nat.pow_le_pow_right (n := 2) (by decide) (show 60 ≤ l.length by omega)
    have e : ∀ k, ((2 ^ k : Nat) : Int) = (2 : Int) ^ k := fun k => by rw [Int.natCast_pow]; rfl
    rw [← e, ← e]; omega
  omega
theorem Fac.pow {p : Int} {k : Nat} (hp : Pm p) (hk : 1 ≤ k) : Fac (p ^ k) [(p, k)] :=
  ⟨fun q hq => by rw [List.mem_singleton.mp hq]; exact ⟨hp, hk⟩, by simp, by simp [prodF]⟩
end NT

end

section
set_option autoImplicit false
set_option autoImplicit false
namespace NT
/-- geometric sums -/
def gs (a : Int) : Nat → Int
  | 0 => 0
  | n + 1 => gs a n * a + 1
theorem gs_mul (a : Int) : ∀ n : Nat, (a - 1) * gs a n = a ^ n - 1
  | 0 => by simp [gs]
  | n + 1 => by
    have ih := gs_mul a n
    rw [gs, Int.mul_add, ← Int.mul_assoc, ih, Int.pow_succ, Int.sub_mul]
    omega
theorem gs_mod {p a : Int} (h : p ∣ a - 1) : ∀ n : Nat, p ∣ gs a n - n
  | 0 => by simp [gs]
  | n + 1 => by
    obtain ⟨c, hc⟩ := gs_mod h n
    obtain ⟨d, hd⟩ := h
    refine ⟨c * a + n * d, ?_⟩
    have e1 : gs a n = p * c + n := by omega
    have e2 : a = p * d + 1 := by omega
    have e3 : gs a n * a = p * (c * a) + (n : Int) * a := by rw [e1, Int.add_mul, Int.mul_assoc]
    have e4 : (n : Int) * a = p * (n * d) + n := by
      rw [e2, Int.mul_add, Int.mul_one, ← Int.mul_assoc, ← Int.mul_assoc, Int.mul_comm (n : Int) p]
    rw [gs, e3, e4, Int.mul_add]
    push_cast; omega
theorem lift_one {p : Nat} {a : Int} {j : Nat} (hj : 1 ≤ j) (h : (p : Int) ^ j ∣ a - 1) : (p : Int) ^ (j + 1) ∣ a ^ p - 1 := by
  have hp : (p : Int) ∣ a - 1 := by
    obtain ⟨i, rfl⟩ : ∃ i, j = i + 1 := ⟨j - 1, by omega⟩
    rw [Int.pow_succ] at h
    exact Int.dvd_trans (Int.dvd_mul_left ..) h
  have h2 : (p : Int) ∣ gs a p := by
    have := gs_mod hp p
    have e : gs a p = (gs a p - p) + p := by omega
    rw [e]; exact Int.dvd_add this (Int.dvd_refl _)
  rw [← gs_mul, Int.pow_succ]
  exact Int.mul_dvd_mul h h2
theorem euler_pp {p : Nat} {w : Int} (hp : Pm p) (hw : ¬ (p : Int) ∣ w) (h2 : 2 < p) : ∀ k : Nat, (p : Int) ^ (k + 1) ∣ w ^ (p ^ k * (p - 1)) - 1
  | 0 => by
    have odd : p % 2 = 1 := by
      rcases Nat.mod_two_eq_zero_or_one p with z | z
      · exact absurd (show (2 : Int) ∣ p by omega) (hp.2 2 (by decide) (by omega))
      · exact z
    have f := hp.fermat (h := p / 2) (by omega) (by omega) hw
    have e : 2 * (p / 2) = p - 1 := by omega
    rw [e] at f
    simp only [Nat.pow_zero, Nat.one_mul, Int.pow_succ, Int.pow_zero, Int.one_mul]; exact f
  | k + 1 => by
    have ih := lift_one (by omega) (euler_pp hp hw h2 k)
    have e : p ^ (k + 1) * (p - 1) = p ^ k * (p - 1) * p := by rw [Nat.pow_succ, Nat.mul_assoc, Nat.mul_comm p, ← Nat.mul_assoc]
    rw [e, Int.pow_mul]; exact ih
theorem euler_two {w : Int} (hw : w % 2 = 1) : ∀ m : Nat, (2 : Int) ^ (m + 3) ∣ w ^ (2 ^ (m + 1)) - 1
  | 0 => by
    have : w ^ (2 ^ (0 + 1)) - 1 = (w - 1) * (w + 1) := by
      show w ^ 2 - 1 = _
      rw [Int.pow_succ, Int.pow_succ, Int.pow_zero, Int.one_mul, Int.mul_add, Int.sub_mul, Int.sub_mul]; omega
    rw [this]
    obtain ⟨c, hc⟩ : ∃ c, w = 2 * c + 1 := ⟨w / 2, by omega⟩
    have e1 : w - 1 = 2 * c := by omega
    have e2 : w + 1 = 2 * (c + 1) := by omega
    obtain ⟨d, hd⟩ : ∃ d, c * (c + 1) = 2 * d := by
      rcases (by omega : c % 2 = 0 ∨ (c + 1) % 2 = 0) with z | z
      · exact ⟨c / 2 * (c + 1), by rw [← Int.mul_assoc]; congr 1; omega⟩
      · exact ⟨c * ((c + 1) / 2), by rw [Int.mul_left_comm]; congr 1; omega⟩
    rw [e1, e2]
    refine ⟨d, ?_⟩
    have : 2 * c * (2 * (c + 1)) = 4 * (c * (c + 1)) := by
      rw [Int.mul_assoc, Int.mul_left_comm c, ← Int.mul_assoc]; rfl
    rw [this, hd]
    show _ = 8 * d
    omega
  | m + 1 => by
    have ih := euler_two hw m
    have e : (2 : Nat) ^ (m + 1 + 1) = 2 ^ (m + 1) * 2 := Nat.pow_succ ..
    rw [e, Int.pow_mul]
    exact lift_one (p := 2) (by omega) ih
theorem nmod_iff {a b n : Nat} : a % n = b % n ↔ (n : Int) ∣ (a : Int) - b := by
  rw [← emod_eq_iff]
  constructor
  · intro h
    have : ((a % n : Nat) : Int) = ((b % n : Nat) : Int) := by rw [h]
    simpa using this
  · intro h
    have : ((a % n : Nat) : Int) = ((b % n : Nat) : Int) := by push_cast; exact h
    exact_mod_cast this
theorem pow_mod_eq {a b n : Nat} (e : Nat) (h : a % n = b % n) : a ^ e % n = b ^ e % n := by
  rw [Nat.pow_mod, h, ← Nat.pow_mod]
theorem Pm.npow {p w k : Nat} (hp : Pm p) (h : p ∣ w ^ k) : p ∣ w := by
  have : (p : Int) ∣ (w : Int) ^ k := by
    have : ((p : Nat) : Int) ∣ ((w ^ k : Nat) : Int) := Int.natCast_dvd_natCast.mpr h
    simpa using this
  exact Int.natCast_dvd_natCast.mp (hp.dvd_pow this)
theorem Pm.two {p : Nat} (hp : Pm p) : 2 ≤ p := by have := hp.1; omega
theorem idvd {p : Int} {a b : Nat} (h : a ≤ b) : p ^ a ∣ p ^ b := ⟨p ^ (b - a), by rw [← Int.pow_add]; congr 1; omega⟩
/-- one power of a prime times a unit is another, by a power of the prime -/
theorem val_eq {p k i j a b : Nat} (hp : Pm p) (ha : ¬ p ∣ a) (hb : ¬ p ∣ b) (hi : i < k) (hj : j < k) (h : p ^ i * a % p ^ k = p ^ j * b % p ^ k) : i = j ∧ a % p ^ (k - j) = b % p ^ (k - j) := by
  have half : ∀ {i j a b : Nat}, ¬ p ∣ a → i < k → p ^ i * a % p ^ k = p ^ j * b % p ^ k → ¬ i < j := fun {i j a b} ha hi h c => by
    rw [nmod_iff] at h
    have h1 : (p : Int) ^ (i + 1) ∣ (p : Int) ^ k := idvd (by omega)
    have h2 : (p : Int) ^ (i + 1) ∣ (p : Int) ^ j := idvd (by omega)
    push_cast at h
    have h3 : (p : Int) ^ (i + 1) ∣ (p : Int) ^ i * a := by
      have e : (p : Int) ^ i * a = ((p : Int) ^ i * a - (p : Int) ^ j * b) + (p : Int) ^ j * b := by omega
      rw [e]
      exact Int.dvd_add (Int.dvd_trans h1 h) (Int.dvd_trans h2 (Int.dvd_mul_right ..))
    rw [Int.pow_succ] at h3
    have h4 : (p : Int) ∣ a := Int.dvd_of_mul_dvd_mul_left (Int.ne_of_gt (Int.pow_pos (by have := hp.two; omega))) h3
    exact ha (Int.natCast_dvd_natCast.mp h4)
  have e : i = j := by
    have := half ha hi h
    have := half hb hj h.symm
    omega
  subst e
  refine ⟨rfl, ?_⟩
  rw [nmod_iff] at h ⊢
  push_cast at h ⊢
  rw [← Int.mul_sub] at h
  have e : (p : Int) ^ k = (p : Int) ^ i * (p : Int) ^ (k - i) := by rw [← Int.pow_add]; congr 1; omega
  rw [e] at h
  exact Int.dvd_of_mul_dvd_mul_left (Int.ne_of_gt (Int.pow_pos (by have := hp.two; omega))) h
end NT

end

section
set_option autoImplicit false
set_option autoImplicit false
namespace NT
/-- pairs -/
def prs {α β : Type} (l : List α) (m : List β) : List (α × β) := l.flatMap fun i => m.map fun j => (i, j)
theorem mem_prs {α β : Type} {l : List α} {m : List β} {q : α × β} : q ∈ prs l m ↔ q.1 ∈ l ∧ q.2 ∈ m := by
  unfold prs
  simp only [List.mem_flatMap, List.mem_map]
  constructor
  · rintro ⟨i, hi, j, hj, rfl⟩; exact ⟨hi, hj⟩
  · rintro ⟨h1, h2⟩; exact ⟨q.1, h1, q.2, h2, rfl⟩
theorem prs_len {α β : Type} (m : List β) : ∀ l : List α, (prs l m).length = l.length * m.length
  | [] => by simp [prs]
  | a :: l => by
    have ih := prs_len m l
    unfold prs at ih ⊢
    rw [List.flatMap_cons, List.length_append, ih, List.length_map, List.length_cons, Nat.add_mul, Nat.one_mul, Nat.add_comm]
theorem prs_nodup {α β : Type} {l : List α} {m : List β} (hl : l.Nodup) (hm : m.Nodup) : (prs l m).Nodup := by
  unfold prs
  show List.Pairwise (· ≠ ·) _
  rw [List.pairwise_flatMap]
  refine ⟨fun a _ => ?_, ?_⟩
  · refine nodup_map hm fun x _ y _ e => ?_
    simpa using e
  · refine List.Pairwise.imp ?_ hl
    intro a b hab x hx y hy e
    obtain ⟨i, _, rfl⟩ := List.mem_map.mp hx
    obtain ⟨j, _, rfl⟩ := List.mem_map.mp hy
    simp at e
    exact hab e.1
theorem mod_sub {x y a : Nat} (c : x ≤ y) (e : x % a = y % a) : a ∣ y - x := Nat.dvd_of_mod_eq_zero (Nat.sub_mod_eq_zero_of_mod_eq e.symm)
/-- rests by two numbers without a common divisor -/
theorem pair_inj {a b x y : Nat} (h : Nat.Coprime a b) (hx : x < a * b) (hy : y < a * b) (e1 : x % a = y % a) (e2 : x % b = y % b) : x = y := by
  rcases Nat.le_total x y with c | c
  · have d := h.mul_dvd_of_dvd_of_dvd (a := y - x) (mod_sub c e1) (mod_sub c e2)
    rcases Nat.eq_zero_or_pos (y - x) with z | z
    · omega
    · have := Nat.le_of_dvd z d; omega
  · have d := h.mul_dvd_of_dvd_of_dvd (a := x - y) (mod_sub c e1.symm) (mod_sub c e2.symm)
    rcases Nat.eq_zero_or_pos (x - y) with z | z
    · omega
    · have := Nat.le_of_dvd z d; omega
theorem crt {a b : Nat} (h : Nat.Coprime a b) (ha : 0 < a) (hb : 0 < b) (r s : Nat) : ∃ z, z < a * b ∧ z % a = r % a ∧ z % b = s % b := by
  have nd : ((List.range (a * b)).map fun z => (z % a, z % b)).Nodup := nodup_map List.nodup_range fun x hx y hy e => by
    simp only [Prod.mk.injEq] at e
    exact pair_inj h (List.mem_range.mp hx) (List.mem_range.mp hy) e.1 e.2
  have p := perm_of_sub (m := prs (List.range a) (List.range b)) nd (fun q hq => by
    obtain ⟨z, _, rfl⟩ := List.mem_map.mp hq
    exact mem_prs.mpr ⟨List.mem_range.mpr (Nat.mod_lt _ ha), List.mem_range.mpr (Nat.mod_lt _ hb)⟩) (by rw [prs_len]; simp)
  have m : (r % a, s % b) ∈ prs (List.range a) (List.range b) := mem_prs.mpr ⟨List.mem_range.mpr (Nat.mod_lt _ ha), List.mem_range.mpr (Nat.mod_lt _ hb)⟩
  obtain ⟨z, h1, h2⟩ := List.mem_map.mp (p.mem_iff.mpr m)
  simp only [Prod.mk.injEq] at h2
  exact ⟨z, List.mem_range.mp h1, h2.1, h2.2⟩
/-- being a power, by a number -/
def isP (n t x : Nat) : Prop := ∃ y, y ^ t % n = x % n
theorem isP_mod {n t x : Nat} : isP n t (x % n) ↔ isP n t x := by unfold isP; rw [Nat.mod_mod]
theorem isP_congr {n t x y : Nat} (h : x % n = y % n) : isP n t x ↔ isP n t y := by unfold isP; rw [h]
def pws (n t : Nat) : List Nat := (List.range n).filter fun x => (List.range n).any fun y => y ^ t % n == x
theorem mem_pws {n t x : Nat} (hn : 0 < n) : x ∈ pws n t ↔ x < n ∧ isP n t x := by
  unfold pws isP
  rw [List.mem_filter, List.mem_range]
  constructor
  · rintro ⟨h1, h2⟩
    obtain ⟨y, h3, h4⟩ := List.any_eq_true.mp h2
    refine ⟨h1, y, ?_⟩
    rw [Nat.mod_eq_of_lt h1]; exact beq_iff_eq.mp h4
  · rintro ⟨h1, y, h2⟩
    refine ⟨h1, List.any_eq_true.mpr ⟨y % n, List.mem_range.mpr (Nat.mod_lt _ hn), ?_⟩⟩
    rw [Nat.mod_eq_of_lt h1] at h2
    rw [beq_iff_eq, ← h2, ← Nat.pow_mod]
theorem pws_nodup {n t : Nat} : (pws n t).Nodup := by
  have := List.nodup_range (n := n)
  exact List.Pairwise.filter _ this
theorem isP_mul {a b t x : Nat} (h : Nat.Coprime a b) (ha : 0 < a) (hb : 0 < b) : isP (a * b) t x ↔ isP a t x ∧ isP b t x := by
  constructor
  · rintro ⟨y, hy⟩
    refine ⟨⟨y, ?_⟩, ⟨y, ?_⟩⟩
    · rw [← Nat.mod_mod_of_dvd _ (Nat.dvd_mul_right a b), hy, Nat.mod_mod_of_dvd _ (Nat.dvd_mul_right a b)]
    · rw [← Nat.mod_mod_of_dvd _ (Nat.dvd_mul_left b a), hy, Nat.mod_mod_of_dvd _ (Nat.dvd_mul_left b a)]
  · rintro ⟨⟨y, hy⟩, ⟨w, hw⟩⟩
    obtain ⟨z, _, z1, z2⟩ := crt h ha hb y w
    refine ⟨z, pair_inj h (Nat.mod_lt _ (Nat.mul_pos ha hb)) (Nat.mod_lt _ (Nat.mul_pos ha hb)) ?_ ?_⟩
    · rw [Nat.mod_mod_of_dvd _ (Nat.dvd_mul_right a b), Nat.mod_mod_of_dvd _ (Nat.dvd_mul_right a b), pow_mod_eq t z1, hy]
    · rw [Nat.mod_mod_of_dvd _ (Nat.dvd_mul_left b a), Nat.mod_mod_of_dvd _ (Nat.dvd_mul_left b a), pow_mod_eq t z2, hw]
theorem pws_mul {a b t : Nat} (h : Nat.Coprime a b) (ha : 0 < a) (hb : 0 < b) : (pws (a * b) t).length = (pws a t).length * (pws b t).length := by
  have hab := Nat.mul_pos ha hb
  have p : ((pws (a * b) t).map fun z => (z % a, z % b)).Perm (prs (pws a t) (pws b t)) := by
    rw [List.perm_ext_iff_of_nodup]
    · intro q
      rw [mem_prs, List.mem_map, mem_pws ha, mem_pws hb]
      constructor
      · rintro ⟨z, hz, rfl⟩
        obtain ⟨z1, z2⟩ := (mem_pws hab).mp hz
        obtain ⟨z3, z4⟩ := (isP_mul h ha hb).mp z2
        exact ⟨⟨Nat.mod_lt _ ha, isP_mod.mpr z3⟩, ⟨Nat.mod_lt _ hb, isP_mod.mpr z4⟩⟩
      · rintro ⟨⟨h1, h2⟩, ⟨h3, h4⟩⟩
        obtain ⟨z, z0, z1, z2⟩ := crt h ha hb q.1 q.2
        refine ⟨z, (mem_pws hab).mpr ⟨z0, (isP_mul h ha hb).mpr ⟨(isP_congr z1).mpr h2, (isP_congr z2).mpr h4⟩⟩, ?_⟩
        rw [z1, z2, Nat.mod_eq_of_lt h1, Nat.mod_eq_of_lt h3]
    · exact nodup_map pws_nodup fun x hx y hy e => by
        simp only [Prod.mk.injEq] at e
        exact pair_inj h ((mem_pws hab).mp hx).1 ((mem_pws hab).mp hy).1 e.1 e.2
    · exact prs_nodup pws_nodup pws_nodup
  have := p.length_eq
  rw [prs_len, List.length_map] at this
  exact this
theorem Pm.cop {p m k : Nat} (hp : Pm p) (h : ¬ p ∣ m) : Nat.Coprime (p ^ k) m := by
  have h1 : Nat.Coprime p m := by
    have := hp.gcd_one (a := m) (fun z => h (Int.natCast_dvd_natCast.mp z))
    have e : Int.gcd (m : Int) (p : Int) = Nat.gcd m p := rfl
    rw [e, Nat.gcd_comm] at this
    exact this
  have := Nat.Coprime.pow k 1 h1
  rwa [Nat.pow_one] at this
/-- primes with a root of all units -/
theorem ord_dvd {m g φ : Nat} (h1 : g ^ φ % m = 1 % m) (h2 : ∀ i, 0 < i → i < φ → g ^ i % m ≠ 1 % m) (h0 : 0 < φ) {n : Nat} (h : g ^ n % m = 1 % m) : φ ∣ n := by
  have e : g ^ (n % φ) % m = 1 % m := by
    have e1 : g ^ n = (g ^ φ) ^ (n / φ) * g ^ (n % φ) := by rw [← Nat.pow_mul, ← Nat.pow_add, Nat.div_add_mod]
    rw [e1, Nat.mul_mod, pow_mod_eq _ h1, Nat.one_pow, ← Nat.mul_mod, Nat.one_mul] at h
    exact h
  rcases Nat.eq_zero_or_pos (n % φ) with z | z
  · exact Nat.dvd_of_mod_eq_zero z
  · exact absurd e (h2 _ z (Nat.mod_lt _ h0))
structure Gen (p g : Nat) : Prop where
  pm : Pm p
  nd : ¬ p ∣ g
  ord : ∀ i, 0 < i → i < p - 1 → g ^ i % p ≠ 1
theorem Gen.fer {p g : Nat} (h : Gen p g) (h2 : 2 < p) : g ^ (p - 1) % p = 1 % p := by
  rw [nmod_iff]
  have := euler_pp h.pm (fun z => h.nd (Int.natCast_dvd_natCast.mp z)) h2 0
  simp only [Nat.pow_zero, Nat.one_mul, Int.pow_succ, Int.pow_zero, Int.one_mul] at this
  push_cast; exact this
theorem Gen.dvd {p g n : Nat} (h : Gen p g) (h2 : 2 < p) (e : g ^ n % p = 1) : p - 1 ∣ n := by
  have o : 1 % p = 1 := Nat.mod_eq_of_lt (by omega)
  exact ord_dvd (h.fer h2) (fun i a b c => h.ord i a b (by omega)) (by omega) (by omega)
theorem Pm.cancel {p a b c : Nat} (hp : Pm p) (ha : ¬ p ∣ a) (h : a * b % p = a * c % p) : b % p = c % p := by
  rw [nmod_iff] at h ⊢
  push_cast at h
  rw [← Int.mul_sub] at h
  rcases hp.euclid h with z | z
  · exact absurd (Int.natCast_dvd_natCast.mp z) ha
  · exact z
theorem Gen.npow {p g : Nat} (h : Gen p g) (i : Nat) : ¬ p ∣ g ^ i := fun z => h.nd (h.pm.npow z)
theorem Gen.sub {p g i j : Nat} (h : Gen p g) (h2 : 2 < p) (hij : i ≤ j) (e : g ^ i % p = g ^ j % p) : p - 1 ∣ j - i := by
  have e1 : g ^ j = g ^ i * g ^ (j - i) := by rw [← Nat.pow_add]; congr 1; omega
  have e2 : g ^ i * 1 % p = g ^ i * g ^ (j - i) % p := by rw [Nat.mul_one, ← e1]; exact e
  have := h.pm.cancel (h.npow i) e2
  rw [Nat.mod_eq_of_lt (by omega : 1 < p)] at this
  exact h.dvd h2 this.symm
theorem Gen.inj {p g i j : Nat} (h : Gen p g) (h2 : 2 < p) (hi : i < p - 1) (hj : j < p - 1) (e : g ^ i % p = g ^ j % p) : i = j := by
  rcases Nat.le_total i j with c | c
  · have d := h.sub h2 c e
    rcases Nat.eq_zero_or_pos (j - i) with z | z
    · omega
    · have := Nat.le_of_dvd z d; omega
  · have d := h.sub h2 c e.symm
    rcases Nat.eq_zero_or_pos (i - j) with z | z
    · omega
    · have := Nat.le_of_dvd z d; omega
theorem Gen.pos {p g : Nat} (h : Gen p g) (i : Nat) : 0 < g ^ i % p := by
  rcases Nat.eq_zero_or_pos (g ^ i % p) with z | z
  · exact absurd (Nat.dvd_of_mod_eq_zero z) (h.npow i)
  · exact z
theorem Gen.all {p g x : Nat} (h : Gen p g) (h2 : 2 < p) (hx : ¬ p ∣ x) : ∃ i, i < p - 1 ∧ g ^ i % p = x % p := by
  have nd : ((List.range (p - 1)).map fun i => g ^ i % p).Nodup := nodup_map List.nodup_range fun x hx y hy e => h.inj h2 (List.mem_range.mp hx) (List.mem_range.mp hy) e
  have pe := perm_of_sub (m := (List.range (p - 1)).map fun i => i + 1) nd (fun q hq => by
    obtain ⟨i, _, rfl⟩ := List.mem_map.mp hq
    have := h.pos i
    have := Nat.mod_lt (g ^ i) (show 0 < p by omega)
    exact List.mem_map.mpr ⟨g ^ i % p - 1, List.mem_range.mpr (by omega), by omega⟩) (by simp)
  have hx0 : 0 < x % p := by
    rcases Nat.eq_zero_or_pos (x % p) with z | z
    · exact absurd (Nat.dvd_of_mod_eq_zero z) hx
    · exact z
  have := Nat.mod_lt x (show 0 < p by omega)
  have m : x % p ∈ (List.range (p - 1)).map fun i => i + 1 := List.mem_map.mpr ⟨x % p - 1, List.mem_range.mpr (by omega), by omega⟩
  obtain ⟨i, h1, h2⟩ := List.mem_map.mp (pe.mem_iff.mpr m)
  exact ⟨i, List.mem_range.mp h1, h2⟩
theorem inv {a n : Nat} (h : Nat.Coprime a n) (hn : 0 < n) (r : Nat) : ∃ j, a * j % n = r % n := by
  have c : ∀ i j, i < n → j < n → i ≤ j → a * i % n = a * j % n → i = j := fun i j hi hj le e => by
    have d := mod_sub (Nat.mul_le_mul_left a le) e
    rw [← Nat.mul_sub] at d
    have d2 := h.symm.dvd_of_dvd_mul_left d
    rcases Nat.eq_zero_or_pos (j - i) with z | z
    · omega
    · have := Nat.le_of_dvd z d2; omega
  have pe := perm_of_sub (l := (List.range n).map fun i => a * i % n) (m := List.range n) (nodup_map List.nodup_range fun x hx y hy e => by
      rcases Nat.le_total x y with z | z
      · exact c x y (List.mem_range.mp hx) (List.mem_range.mp hy) z e
      · exact (c y x (List.mem_range.mp hy) (List.mem_range.mp hx) z e.symm).symm) (fun q hq => by
    obtain ⟨i, _, rfl⟩ := List.mem_map.mp hq
    exact List.mem_range.mpr (Nat.mod_lt _ hn)) (by simp)
  obtain ⟨j, _, h2⟩ := List.mem_map.mp (pe.mem_iff.mpr (List.mem_range.mpr (Nat.mod_lt r hn)))
  exact ⟨j, h2⟩
theorem Gen.red {p g : Nat} (h : Gen p g) (h2 : 2 < p) {a b : Nat} (e : a % (p - 1) = b % (p - 1)) : g ^ a % p = g ^ b % p := by
  have r : ∀ a, g ^ a % p = g ^ (a % (p - 1)) % p := fun a => by
    have e1 : g ^ a = (g ^ (p - 1)) ^ (a / (p - 1)) * g ^ (a % (p - 1)) := by rw [← Nat.pow_mul, ← Nat.pow_add, Nat.div_add_mod]
    rw [e1, Nat.mul_mod, pow_mod_eq _ (h.fer h2), Nat.one_pow, ← Nat.mul_mod, Nat.one_mul]
  rw [r a, r b, e]
theorem Gen.exp {p g : Nat} (h : Gen p g) (h2 : 2 < p) {a b : Nat} (e : g ^ a % p = g ^ b % p) : a % (p - 1) = b % (p - 1) := by
  have h0 : 0 < p - 1 := by omega
  refine h.inj h2 (Nat.mod_lt _ h0) (Nat.mod_lt _ h0) ?_
  rw [← h.red h2 (show a % (p - 1) = a % (p - 1) % (p - 1) by rw [Nat.mod_mod]), e]
  exact h.red h2 (by rw [Nat.mod_mod])
theorem Gen.isP {p g t x : Nat} (h : Gen p g) (h2 : 2 < p) (ht : 0 < t) (hx : ¬ p ∣ x) (e : x ^ ((p - 1) / Nat.gcd t (p - 1)) % p = 1) : isP p t x := by
  obtain ⟨i, i1, i2⟩ := h.all h2 hx
  obtain ⟨d, hd⟩ : ∃ d, d = Nat.gcd t (p - 1) := ⟨_, rfl⟩
  have d0 : 0 < d := by rw [hd]; exact Nat.gcd_pos_of_pos_left _ ht
  obtain ⟨n, hn⟩ : d ∣ p - 1 := by rw [hd]; exact Nat.gcd_dvd_right _ _
  obtain ⟨s, hs⟩ : d ∣ t := by rw [hd]; exact Nat.gcd_dvd_left _ _
  have n0 : 0 < n := Nat.pos_of_ne_zero fun z => by rw [z, Nat.mul_zero] at hn; omega
  rw [← hd] at e
  have en : (p - 1) / d = n := by rw [hn]; exact Nat.mul_div_cancel_left _ d0
  rw [en, ← pow_mod_eq n i2, ← Nat.pow_mul] at e
  have di := h.dvd h2 e
  rw [hn] at di
  have di : d ∣ i := Nat.dvd_of_mul_dvd_mul_right n0 di
  obtain ⟨c, hc⟩ := di
  have cop : Nat.Coprime s n := by
    have : d = d * Nat.gcd s n := by
      rw [← Nat.gcd_mul_left, ← hs, ← hn]; exact hd
    have : d * 1 = d * Nat.gcd s n := by omega
    exact (Nat.eq_of_mul_eq_mul_left d0 this).symm
  obtain ⟨j, hj⟩ := inv cop n0 c
  refine ⟨g ^ j, ?_⟩
  rw [← Nat.pow_mul, ← i2]
  refine h.red h2 ?_
  have : j * t = d * (s * j) := by rw [hs, Nat.mul_left_comm, Nat.mul_comm j s]
  rw [this, hc, hn, Nat.mul_mod_mul_left, Nat.mul_mod_mul_left, hj]
theorem Gen.count {p g t : Nat} (h : Gen p g) (h2 : 2 < p) (ht : 0 < t) : (pws p t).length = 1 + (p - 1) / Nat.gcd t (p - 1) := by
  obtain ⟨d, hd⟩ : ∃ d, d = Nat.gcd t (p - 1) := ⟨_, rfl⟩
  have d0 : 0 < d := by rw [hd]; exact Nat.gcd_pos_of_pos_left _ ht
  obtain ⟨n, hn⟩ : d ∣ p - 1 := by rw [hd]; exact Nat.gcd_dvd_right _ _
  obtain ⟨s, hs⟩ : d ∣ t := by rw [hd]; exact Nat.gcd_dvd_left _ _
  have n0 : 0 < n := Nat.pos_of_ne_zero fun z => by rw [z, Nat.mul_zero] at hn; omega
  have en : (p - 1) / d = n := by rw [hn]; exact Nat.mul_div_cancel_left _ d0
  have lt : ∀ {j}, j < n → d * j < p - 1 := fun {j} hj => by rw [hn]; exact Nat.mul_lt_mul_of_pos_left hj d0
  have p0 : 0 < p := by omega
  have pe : (pws p t).Perm (0 :: (List.range n).map fun j => g ^ (d * j) % p) := by
    rw [List.perm_ext_iff_of_nodup pws_nodup]
    · intro x
      rw [mem_pws p0, List.mem_cons, List.mem_map]
      constructor
      · rintro ⟨x1, y, hy⟩
        rcases Nat.eq_zero_or_pos x with z | z
        · exact .inl z
        · right
          have hx : ¬ p ∣ x := fun w => by have := Nat.le_of_dvd z w; omega
          have hyp : ¬ p ∣ y := fun w => hx (by
            have : p ∣ y ^ t := by
              obtain ⟨q, rfl⟩ : ∃ q, t = q + 1 := ⟨t - 1, by omega⟩
              rw [Nat.pow_succ]; exact Nat.dvd_trans w (Nat.dvd_mul_left ..)
            rw [Nat.mod_eq_zero_of_dvd this] at hy
            exact Nat.dvd_of_mod_eq_zero hy.symm)
          obtain ⟨i, i1, i2⟩ := h.all h2 hx
          obtain ⟨j, j1, j2⟩ := h.all h2 hyp
          have e : g ^ (j * t) % p = g ^ i % p := by rw [Nat.pow_mul, pow_mod_eq t j2, hy, i2]
          have e2 := h.exp h2 e
          rw [Nat.mod_eq_of_lt i1] at e2
          have di : d ∣ i := by
            rw [← e2]
            exact (Nat.dvd_mod_iff (by rw [hn]; exact Nat.dvd_mul_right ..)).mpr (by rw [hs]; exact Nat.dvd_trans (Nat.dvd_mul_right d s) (Nat.dvd_mul_left ..))
          obtain ⟨c, hc⟩ := di
          refine ⟨c, List.mem_range.mpr ?_, ?_⟩
          · apply Classical.byContradiction
            intro w
            have : d * n ≤ d * c := Nat.mul_le_mul_left d (by omega)
            omega
          · rw [← hc, i2, Nat.mod_eq_of_lt x1]
      · rintro (z | ⟨j, j1, rfl⟩)
        · subst z
          exact ⟨p0, 0, by rw [Nat.zero_pow ht]⟩
        · refine ⟨Nat.mod_lt _ p0, isP_mod.mpr (h.isP h2 ht (h.npow _) ?_)⟩
          rw [← hd, en, ← Nat.pow_mul, Nat.mul_right_comm, ← hn, Nat.pow_mul, pow_mod_eq j (h.fer h2), Nat.one_pow, Nat.mod_eq_of_lt (by omega)]
    · rw [List.nodup_cons]
      refine ⟨fun z => ?_, nodup_map List.nodup_range fun x hx y hy e => ?_⟩
      · obtain ⟨j, _, hj⟩ := List.mem_map.mp z
        have := h.pos (d * j)
        omega
      · exact Nat.eq_of_mul_eq_mul_left d0 (h.inj h2 (lt (List.mem_range.mp hx)) (lt (List.mem_range.mp hy)) e)
  have := pe.length_eq
  rw [← hd, en, this, List.length_cons, List.length_map, List.length_range]
  omega
end NT

end

section
set_option autoImplicit false
set_option autoImplicit false
namespace NT
/-- how many roots -/
def rts (n t x : Nat) : Nat := ((List.range n).filter fun y => y ^ t % n == x % n).length
theorem rts_congr {n t x z : Nat} (h : x % n = z % n) : rts n t x = rts n t z := by unfold rts; rw [h]
theorem rts_mul {a b t x : Nat} (h : Nat.Coprime a b) (ha : 0 < a) (hb : 0 < b) : rts (a * b) t x = rts a t x * rts b t x := by
  have hab := Nat.mul_pos ha hb
  have p : (((List.range (a * b)).filter fun y => y ^ t % (a * b) == x % (a * b)).map fun z => (z % a, z % b)).Perm
      (prs ((List.range a).filter fun y => y ^ t % a == x % a) ((List.range b).filter fun y => y ^ t % b == x % b)) := by
    have nd := fun n => List.nodup_range (n := n)
    rw [List.perm_ext_iff_of_nodup]
    · intro q
      rw [mem_prs, List.mem_map]
      simp only [List.mem_filter, List.mem_range, beq_iff_eq]
      constructor
      · rintro ⟨z, ⟨z1, z2⟩, rfl⟩
        refine ⟨⟨Nat.mod_lt _ ha, ?_⟩, ⟨Nat.mod_lt _ hb, ?_⟩⟩
        · rw [← Nat.pow_mod, ← Nat.mod_mod_of_dvd _ (Nat.dvd_mul_right a b), z2, Nat.mod_mod_of_dvd _ (Nat.dvd_mul_right a b)]
        · rw [← Nat.pow_mod, ← Nat.mod_mod_of_dvd _ (Nat.dvd_mul_left b a), z2, Nat.mod_mod_of_dvd _ (Nat.dvd_mul_left b a)]
      · rintro ⟨⟨h1, h2⟩, ⟨h3, h4⟩⟩
        obtain ⟨z, z0, z1, z2⟩ := crt h ha hb q.1 q.2
        refine ⟨z, ⟨z0, ?_⟩, ?_⟩
        · refine pair_inj h (Nat.mod_lt _ hab) (Nat.mod_lt _ hab) ?_ ?_
          · rw [Nat.mod_mod_of_dvd _ (Nat.dvd_mul_right a b), Nat.mod_mod_of_dvd _ (Nat.dvd_mul_right a b), pow_mod_eq t z1, h2]
          · rw [Nat.mod_mod_of_dvd _ (Nat.dvd_mul_left b a), Nat.mod_mod_of_dvd _ (Nat.dvd_mul_left b a), pow_mod_eq t z2, h4]
        · rw [z1, z2, Nat.mod_eq_of_lt h1, Nat.mod_eq_of_lt h3]
    · refine nodup_map (List.Pairwise.filter _ (nd _)) fun x hx y hy e => ?_
      simp only [Prod.mk.injEq] at e
      exact pair_inj h (List.mem_range.mp (List.mem_filter.mp hx).1) (List.mem_range.mp (List.mem_filter.mp hy).1) e.1 e.2
    · exact prs_nodup (List.Pairwise.filter _ (nd _)) (List.Pairwise.filter _ (nd _))
  have := p.length_eq
  rw [prs_len, List.length_map] at this
  exact this
theorem rts_pos {n t x : Nat} (hn : 0 < n) : 0 < rts n t x ↔ isP n t x := by
  unfold rts
  rw [List.length_pos_iff_exists_mem]
  constructor
  · rintro ⟨y, hy⟩
    exact ⟨y, beq_iff_eq.mp (List.mem_filter.mp hy).2⟩
  · rintro ⟨y, hy⟩
    exact ⟨y % n, List.mem_filter.mpr ⟨List.mem_range.mpr (Nat.mod_lt _ hn), beq_iff_eq.mpr (by rw [← Nat.pow_mod]; exact hy)⟩⟩
/-- counts by values -/
theorem cnt_or {α : Type} {P Q : α → Bool} : ∀ (l : List α), (∀ a ∈ l, ¬ (P a = true ∧ Q a = true)) → (l.filter fun a => P a || Q a).length = (l.filter P).length + (l.filter Q).length
  | [], _ => rfl
  | a :: l, h => by
    have ih := cnt_or l fun x hx => h x (List.mem_cons_of_mem _ hx)
    have ha := h a (List.mem_cons_self ..)
    simp only [List.filter_cons]
    cases hp : P a <;> cases hq : Q a
    · simpa using ih
    · simp only [Bool.or_true, if_true, Bool.false_eq_true, if_false, List.length_cons]; omega
    · simp only [Bool.or_false, if_true, Bool.false_eq_true, if_false, List.length_cons]; omega
    · exact absurd ⟨hp, hq⟩ ha
theorem sum_cnt {n : Nat} (f : Nat → Nat) : ∀ l : List Nat, l.Nodup → (l.map fun x => ((List.range n).filter fun y => f y == x).length).sum = ((List.range n).filter fun y => l.contains (f y)).length
  | [], _ => by
    have : (List.range n).filter (fun y => ([] : List Nat).contains (f y)) = [] := List.filter_eq_nil_iff.mpr (by simp)
    rw [this]; rfl
  | a :: l, h => by
    rw [List.nodup_cons] at h
    have ih := sum_cnt (n := n) f l h.2
    rw [List.map_cons, List.sum_cons, ih, ← cnt_or]
    · congr 2
    · rintro y _ ⟨h1, h2⟩
      rw [beq_iff_eq] at h1
      rw [h1] at h2
      exact h.1 (List.contains_iff_mem.mp h2)
theorem rts_sum {n t : Nat} {l : List Nat} (hl : l.Nodup) (hx : ∀ x ∈ l, x < n) : (l.map fun x => rts n t x).sum ≤ n ∧ ((∀ x, x < n → isP n t x → x ∈ l) → (l.map fun x => rts n t x).sum = n) := by
  have e : (l.map fun x => rts n t x) = l.map fun x => ((List.range n).filter fun y => y ^ t % n == x).length := by
    apply List.map_congr_left
    intro x h
    unfold rts
    rw [Nat.mod_eq_of_lt (hx x h)]
  rw [e, sum_cnt (fun y => y ^ t % n) l hl]
  refine ⟨Nat.le_trans (List.length_filter_le _ _) (by simp), fun ha => ?_⟩
  have : (List.range n).filter (fun y => l.contains (y ^ t % n)) = List.range n := List.filter_eq_self.mpr fun y hy => by
    have hn : 0 < n := by have := List.mem_range.mp hy; omega
    exact List.contains_iff_mem.mpr (ha _ (Nat.mod_lt _ hn) ⟨y, by rw [Nat.mod_mod]⟩)
  rw [this, List.length_range]
/-- primes: as many roots as the divisor says -/
theorem Gen.rts {p g t x : Nat} (h : Gen p g) (h2 : 2 < p) (ht : 0 < t) (hx : ¬ p ∣ x) (hi : NT.isP p t x) : NT.rts p t x = Nat.gcd t (p - 1) := by
  obtain ⟨y0, hy0⟩ := hi
  have hyp : ∀ y, y ^ t % p = x % p → ¬ p ∣ y := fun y hy w => hx (by
    have : p ∣ y ^ t := by
      obtain ⟨q, rfl⟩ : ∃ q, t = q + 1 := ⟨t - 1, by omega⟩
      rw [Nat.pow_succ]; exact Nat.dvd_trans w (Nat.dvd_mul_left ..)
    rw [Nat.mod_eq_zero_of_dvd this] at hy
    exact Nat.dvd_of_mod_eq_zero hy.symm)
  obtain ⟨j0, _, hj0⟩ := h.all h2 (hyp y0 hy0)
  obtain ⟨d, hd⟩ : ∃ d, d = Nat.gcd t (p - 1) := ⟨_, rfl⟩
  have d0 : 0 < d := by rw [hd]; exact Nat.gcd_pos_of_pos_left _ ht
  obtain ⟨n, hn⟩ : d ∣ p - 1 := by rw [hd]; exact Nat.gcd_dvd_right _ _
  obtain ⟨s, hs⟩ : d ∣ t := by rw [hd]; exact Nat.gcd_dvd_left _ _
  have n0 : 0 < n := Nat.pos_of_ne_zero fun z => by rw [z, Nat.mul_zero] at hn; omega
  have cop : Nat.Coprime n s := by
    have : d = d * Nat.gcd s n := by rw [← Nat.gcd_mul_left, ← hs, ← hn]; exact hd
    have : d * 1 = d * Nat.gcd s n := by omega
    have := (Nat.eq_of_mul_eq_mul_left d0 this).symm
    show Nat.gcd n s = 1
    rw [Nat.gcd_comm]; exact this
  obtain ⟨r, hr⟩ : ∃ r, r = j0 % n := ⟨_, rfl⟩
  have rl : r < n := by rw [hr]; exact Nat.mod_lt _ n0
  have lt : ∀ {k}, k < d → r + n * k < p - 1 := fun {k} hk => by
    have : n * (k + 1) ≤ n * d := Nat.mul_le_mul_left n hk
    rw [Nat.mul_add, Nat.mul_one] at this
    rw [hn, Nat.mul_comm d n]; omega
  have x0 : g ^ (j0 * t) % p = x % p := by rw [Nat.pow_mul, pow_mod_eq t hj0, hy0]
  -- a root is one of these
  have key : ∀ j, g ^ (j * t) % p = x % p ↔ j % n = r := fun j => by
    rw [← x0, hr]
    constructor
    · intro e
      have e2 := h.exp h2 e
      have half : ∀ {a b : Nat}, a ≤ b → a * t % (p - 1) = b * t % (p - 1) → a % n = b % n := fun {a b} c e => by
        have dd := mod_sub (Nat.mul_le_mul_right t c) e
        rw [← Nat.sub_mul, hs, hn, Nat.mul_left_comm] at dd
        have d2 := cop.dvd_of_dvd_mul_right (Nat.dvd_of_mul_dvd_mul_left d0 dd)
        obtain ⟨k, hk⟩ := d2
        have : b = a + n * k := by omega
        rw [this, Nat.add_mul_mod_self_left]
      rcases Nat.le_total j j0 with c | c
      · exact half c e2
      · exact (half c e2.symm).symm
    · intro e
      refine h.red h2 ?_
      have half : ∀ {a b : Nat}, a ≤ b → a % n = b % n → a * t % (p - 1) = b * t % (p - 1) := fun {a b} c e => by
        obtain ⟨k, hk⟩ := mod_sub c e
        have eb : b = a + n * k := by omega
        have : b * t = a * t + (p - 1) * (k * s) := by
          rw [eb, Nat.add_mul, hs, hn]
          congr 1
          rw [Nat.mul_comm d n, Nat.mul_assoc, Nat.mul_assoc, Nat.mul_left_comm k d s]
        rw [this, Nat.add_mul_mod_self_left]
      rcases Nat.le_total j j0 with c | c
      · exact half c e
      · exact (half c e.symm).symm
  have pe : ((List.range p).filter fun y => y ^ t % p == x % p).Perm ((List.range d).map fun k => g ^ (r + n * k) % p) := by
    rw [List.perm_ext_iff_of_nodup (List.Pairwise.filter _ List.nodup_range)]
    · intro y
      simp only [List.mem_filter, List.mem_range, beq_iff_eq, List.mem_map]
      constructor
      · rintro ⟨y1, y2⟩
        obtain ⟨j, j1, j2⟩ := h.all h2 (hyp y y2)
        have : g ^ (j * t) % p = x % p := by rw [Nat.pow_mul, pow_mod_eq t j2, y2]
        have jr := (key j).mp this
        refine ⟨j / n, ?_, ?_⟩
        · apply Nat.div_lt_of_lt_mul
          rw [Nat.mul_comm, ← hn]; exact j1
        · rw [← jr, Nat.mod_add_div, j2, Nat.mod_eq_of_lt y1]
      · rintro ⟨k, k1, rfl⟩
        refine ⟨Nat.mod_lt _ (by omega), ?_⟩
        rw [← Nat.pow_mod, ← Nat.pow_mul]
        refine (key _).mpr ?_
        rw [Nat.add_mul_mod_self_left, Nat.mod_eq_of_lt rl]
    · refine nodup_map List.nodup_range fun a ha b hb e => ?_
      have := h.inj h2 (lt (List.mem_range.mp ha)) (lt (List.mem_range.mp hb)) e
      have : n * a = n * b := by omega
      exact Nat.eq_of_mul_eq_mul_left n0 this
  have := pe.length_eq
  rw [List.length_map, List.length_range] at this
  rw [← hd]
  exact this
/-- digits -/
def val (B : Nat) (c : Nat → Nat) : Nat → Nat
  | 0 => 0
  | m + 1 => val B c m + c m * B ^ m
theorem val_lt {B : Nat} {c : Nat → Nat} (h : ∀ i, c i < B) : ∀ m, val B c m < B ^ m
  | 0 => by simp [val]
  | m + 1 => by
    have ih := val_lt h m
    have : (c m + 1) * B ^ m ≤ B * B ^ m := Nat.mul_le_mul_right _ (h m)
    rw [Nat.add_mul, Nat.one_mul] at this
    rw [val, Nat.pow_succ, Nat.mul_comm (B ^ m)]
    omega
theorem val_dig {B : Nat} {c : Nat → Nat} (h : ∀ i, c i < B) : ∀ (m x : Nat), x < m → val B c m / B ^ x % B = c x
  | 0, x, hx => by omega
  | m + 1, x, hx => by
    have B0 : 0 < B := Nat.lt_of_le_of_lt (Nat.zero_le _) (h 0)
    rw [val]
    rcases (by omega : x = m ∨ x < m) with z | z
    · subst z
      rw [Nat.add_mul_div_right _ _ (Nat.pow_pos B0), Nat.div_eq_of_lt (val_lt h x), Nat.zero_add, Nat.mod_eq_of_lt (h x)]
    · have ih := val_dig h m x z
      obtain ⟨w, rfl⟩ : ∃ w, m = x + 1 + w := ⟨m - x - 1, by omega⟩
      have e : c (x + 1 + w) * B ^ (x + 1 + w) = B * (c (x + 1 + w) * B ^ w) * B ^ x := by
        rw [Nat.pow_add, Nat.pow_succ, Nat.mul_assoc B]
        rw [Nat.mul_comm (B ^ x) B, Nat.mul_assoc B, Nat.mul_left_comm _ B, Nat.mul_comm (B ^ x), ← Nat.mul_assoc (c _), ← Nat.mul_assoc B]
      rw [e, Nat.add_mul_div_right _ _ (Nat.pow_pos B0), Nat.add_mul_mod_self_left, ih]
theorem val_add {B : Nat} {c : Nat → Nat} {j : Nat} : ∀ m, val B (fun i => c i + if i = j then 1 else 0) m = val B c m + if j < m then B ^ j else 0
  | 0 => by simp [val]
  | m + 1 => by
    rw [val, val_add m, val, Nat.add_mul]
    by_cases e : m = j
    · subst e
      rw [if_neg (by omega), if_pos rfl, if_pos (by omega), Nat.one_mul]; omega
    · rw [if_neg e, Nat.zero_mul]
      by_cases z : j < m
      · rw [if_pos z, if_pos (by omega)]; omega
      · rw [if_neg z, if_neg (by omega)]; omega
def hist (B M t : Nat) : Nat → Nat
  | 0 => 0
  | y + 1 => hist B M t y + B ^ (y ^ t % M)
theorem hist_val {B M t : Nat} (hM : 0 < M) : ∀ n, hist B M t n = val B (fun x => ((List.range n).filter fun y => y ^ t % M == x).length) M
  | 0 => by
    have : ∀ m, val B (fun x => ((List.range 0).filter fun y => y ^ t % M == x).length) m = 0 := fun m => by
      induction m with
      | zero => rfl
      | succ m ih => rw [val, ih]; simp
    rw [this]; rfl
  | n + 1 => by
    rw [hist, hist_val hM n]
    have e : (fun x => ((List.range (n + 1)).filter fun y => y ^ t % M == x).length) = fun x => ((List.range n).filter fun y => y ^ t % M == x).length + if x = n ^ t % M then 1 else 0 := by
      funext x
      rw [List.range_succ, List.filter_append, List.length_append]
      congr 1
      by_cases c : x = n ^ t % M
      · simp [c]
      · have : (n ^ t % M == x) = false := by simpa using Ne.symm c
        simp [c, this]
    rw [e, val_add, if_pos (Nat.mod_lt _ hM)]
theorem hist_dig {B M t x : Nat} (hM : 0 < M) (hB : M < B) (hx : x < M) : hist B M t M / B ^ x % B = rts M t x := by
  rw [hist_val hM, val_dig _ _ _ hx]
  · unfold rts; rw [Nat.mod_eq_of_lt hx]
  · intro i
    have := List.length_filter_le (fun y => y ^ t % M == i) (List.range M)
    rw [List.length_range] at this
    omega
end NT

end

section
set_option autoImplicit false
set_option autoImplicit false
namespace NT
/-- third and fourth roots of 1 -/
theorem root3 {p : Nat} {m z : Int} (hp : Pm p) (hm : (p : Int) ∣ m * m + m + 1) (hz : (p : Int) ∣ z ^ 3 - 1) : (p : Int) ∣ z - 1 ∨ (p : Int) ∣ z - m ∨ (p : Int) ∣ z - m * m := by
  have e : z ^ 3 - 1 = (z - 1) * (z * z + z + 1) := by
    have : z ^ 3 = z * z * z := by rw [Int.pow_succ, Int.pow_succ, Int.pow_succ, Int.pow_zero, Int.one_mul]
    rw [this, Int.sub_mul, Int.mul_add, Int.mul_add, ← Int.mul_assoc]; omega
  rw [e] at hz
  rcases hp.euclid hz with h | h
  · exact .inl h
  · have e2 : (z - m) * (z + 1 + m) = (z * z + z + 1) - (m * m + m + 1) := by
      rw [Int.sub_mul, Int.mul_add, Int.mul_add, Int.mul_add, Int.mul_add, Int.mul_comm m z]; omega
    have h2 : (p : Int) ∣ (z - m) * (z + 1 + m) := by rw [e2]; exact Int.dvd_sub h hm
    rcases hp.euclid h2 with h | h
    · exact .inr (.inl h)
    · right; right
      have : z - m * m = (z + 1 + m) - (m * m + m + 1) := by omega
      rw [this]; exact Int.dvd_sub h hm
theorem root4 {p : Nat} {m z : Int} (hp : Pm p) (hm : (p : Int) ∣ m * m + 1) (hz : (p : Int) ∣ z ^ 4 - 1) : (p : Int) ∣ z - 1 ∨ (p : Int) ∣ z - m ∨ (p : Int) ∣ z - m * m ∨ (p : Int) ∣ z - m * m * m := by
  have e : z ^ 4 - 1 = (z - 1) * ((z + 1) * (z * z + 1)) := by
    have : z ^ 4 = z * z * z * z := by rw [Int.pow_succ, Int.pow_succ, Int.pow_succ, Int.pow_succ, Int.pow_zero, Int.one_mul]
    have e1 : (z + 1) * (z * z + 1) = z * z * z + z + z * z + 1 := by
      rw [Int.add_mul, Int.mul_add, ← Int.mul_assoc]; omega
    have e2 : z * (z * z * z) = z * z * z * z := Int.mul_comm _ _
    have e3 : z * (z * z) = z * z * z := (Int.mul_assoc z z z).symm
    rw [this, e1, Int.sub_mul, Int.mul_add, Int.mul_add, Int.mul_add, e2, e3]; omega
  rw [e] at hz
  rcases hp.euclid hz with h | h
  · exact .inl h
  · rcases hp.euclid h with h | h
    · right; right; left
      have : z - m * m = (z + 1) - (m * m + 1) := by omega
      rw [this]; exact Int.dvd_sub h hm
    · have e2 : (z - m) * (z + m) = (z * z + 1) - (m * m + 1) := by
        rw [Int.sub_mul, Int.mul_add, Int.mul_add, Int.mul_comm m z]; omega
      have h2 : (p : Int) ∣ (z - m) * (z + m) := by rw [e2]; exact Int.dvd_sub h hm
      rcases hp.euclid h2 with h | h
      · exact .inr (.inl h)
      · right; right; right
        have : z - m * m * m = (z + m) - m * (m * m + 1) := by
          rw [Int.mul_add, ← Int.mul_assoc]; omega
        rw [this]; exact Int.dvd_sub h (Int.dvd_trans hm (Int.dvd_mul_left ..))
theorem fermat_nat {p x : Nat} (hp : Pm p) (h2 : 2 < p) (hx : ¬ p ∣ x) : x ^ (p - 1) % p = 1 := by
  have := euler_pp hp (fun z => hx (Int.natCast_dvd_natCast.mp z)) h2 0
  simp only [Nat.pow_zero, Nat.one_mul, Int.pow_succ, Int.pow_zero, Int.one_mul] at this
  have h : x ^ (p - 1) % p = 1 % p := by rw [nmod_iff]; push_cast; exact this
  rw [h, Nat.mod_eq_of_lt (by omega)]
/-- a row of all roots of 1 -/
structure Mk (p t m : Nat) : Prop where
  pm : Pm p
  gt : 2 < p
  lt : m < p
  t34 : (t = 3 ∧ (m * m + m + 1) % p = 0) ∨ (t = 4 ∧ (m * m + 1) % p = 0)
  dv : t ∣ p - 1
  one : m ^ t % p = 1
  nd : ((List.range t).map fun i => m ^ i % p).Nodup
theorem Mk.t0 {p t m : Nat} (h : Mk p t m) : 3 ≤ t ∧ t ≤ 4 := by rcases h.t34 with ⟨a, _⟩ | ⟨a, _⟩ <;> omega
theorem Mk.ex {p t m x : Nat} (h : Mk p t m) (hx : ¬ p ∣ x) : ∃ i, i < t ∧ x ^ ((p - 1) / t) % p = m ^ i % p := by
  obtain ⟨z, hz⟩ : ∃ z, z = x ^ ((p - 1) / t) := ⟨_, rfl⟩
  have e : z ^ t % p = 1 % p := by
    rw [hz, ← Nat.pow_mul, Nat.mul_comm, Nat.mul_div_cancel' h.dv, fermat_nat h.pm h.gt hx, Nat.mod_eq_of_lt (by have := h.gt; omega)]
  rw [nmod_iff] at e
  push_cast at e
  rw [← hz]
  rcases h.t34 with ⟨t3, hm⟩ | ⟨t4, hm⟩
  · subst t3
    have hm : (p : Int) ∣ (m : Int) * m + m + 1 := by
      have := Int.natCast_dvd_natCast.mpr (Nat.dvd_of_mod_eq_zero hm)
      push_cast at this; exact this
    rcases root3 h.pm hm e with w | w | w
    · exact ⟨0, by decide, by rw [Nat.pow_zero, nmod_iff]; exact w⟩
    · exact ⟨1, by decide, by rw [Nat.pow_one, nmod_iff]; exact w⟩
    · refine ⟨2, by decide, ?_⟩
      rw [nmod_iff, Nat.pow_succ, Nat.pow_one]; push_cast; exact w
  · subst t4
    have hm : (p : Int) ∣ (m : Int) * m + 1 := by
      have := Int.natCast_dvd_natCast.mpr (Nat.dvd_of_mod_eq_zero hm)
      push_cast at this; exact this
    rcases root4 h.pm hm e with w | w | w | w
    · exact ⟨0, by decide, by rw [Nat.pow_zero, nmod_iff]; exact w⟩
    · exact ⟨1, by decide, by rw [Nat.pow_one, nmod_iff]; exact w⟩
    · refine ⟨2, by decide, ?_⟩
      rw [nmod_iff, Nat.pow_succ, Nat.pow_one]; push_cast; exact w
    · refine ⟨3, by decide, ?_⟩
      rw [nmod_iff, Nat.pow_succ, Nat.pow_succ, Nat.pow_one]; push_cast; exact w
theorem Mk.red {p t m : Nat} (h : Mk p t m) (i : Nat) : m ^ i % p = m ^ (i % t) % p := by
  have e1 : m ^ i = (m ^ t) ^ (i / t) * m ^ (i % t) := by rw [← Nat.pow_mul, ← Nat.pow_add, Nat.div_add_mod]
  have o : m ^ t % p = 1 % p := by rw [h.one, Nat.mod_eq_of_lt (by have := h.gt; omega)]
  rw [e1, Nat.mul_mod, pow_mod_eq _ o, Nat.one_pow, ← Nat.mul_mod, Nat.one_mul]
theorem Mk.inj {p t m i j : Nat} (h : Mk p t m) (hi : i < t) (hj : j < t) (e : m ^ i % p = m ^ j % p) : i = j := by
  have nd := h.nd
  have li : i < ((List.range t).map fun i => m ^ i % p).length := by simp; exact hi
  have lj : j < ((List.range t).map fun i => m ^ i % p).length := by simp; exact hj
  exact (List.getElem_inj (h₀ := li) (h₁ := lj) nd).mp (by simp [e])
theorem Mk.mul {p t m x y i j : Nat} (h : Mk p t m) (hi : x ^ ((p - 1) / t) % p = m ^ i % p) (hj : y ^ ((p - 1) / t) % p = m ^ j % p) : (x * y % p) ^ ((p - 1) / t) % p = m ^ ((i + j) % t) % p := by
  rw [← Nat.pow_mod, Nat.mul_pow, Nat.mul_mod, hi, hj, ← Nat.mul_mod, ← Nat.pow_add, h.red (i + j)]
theorem Mk.undo {p t m x y i j : Nat} (h : Mk p t m) (hi : x ^ ((p - 1) / t) % p = m ^ i % p) (hj : y ^ ((p - 1) / t) % p = m ^ j % p) (il : i < t) (jl : j < t) (e : x * y % p = 1) : j = (t - i) % t := by
  have e1 := h.mul hi hj
  have t0 := h.t0
  rw [e, Nat.one_pow] at e1
  have : (i + j) % t = 0 := h.inj (Nat.mod_lt _ (by omega)) (by omega) (by rw [← e1, Nat.pow_zero])
  rcases Nat.eq_zero_or_pos i with z | z
  · subst z
    rw [Nat.zero_add, Nat.mod_eq_of_lt jl] at this
    rw [this, Nat.sub_zero, Nat.mod_self]
  · rw [Nat.mod_eq_of_lt (by omega)]
    have d := Nat.dvd_of_mod_eq_zero this
    obtain ⟨k, hk⟩ := d
    have : k = 1 := by
      rcases (by omega : k = 0 ∨ k = 1 ∨ 2 ≤ k) with w | w | w
      · subst w; omega
      · exact w
      · have : t * 2 ≤ t * k := Nat.mul_le_mul_left t w
        omega
    subst this
    omega
end NT

end

section
set_option autoImplicit false
set_option autoImplicit false
namespace LW
open PySem PySem.Spec PyProof.Rows L2 DL NT
section
variable {S : Store} {v l h : Int} {d : D}
@[simp] theorem is_integer_int : m_is_integer [.int v] S = .ok (.bl true) S := by
  simp [m_is_integer, f_is_integer, N_is_integer, startE, gIsi, tyName, isTy]
theorem is_whole_int : m_is_whole [.int v, .int l, .int h] S = .ok (.bl (decide (l ≤ v) && decide (v ≤ h))) S := by
  simp [m_is_whole, f_is_whole, N_is_whole, startE]
  by_cases e : l ≤ v <;> simp [e]
theorem is_integer_no (h : tyName d = some "NoneType" ∨ tyName d = some "bool" ∨ tyName d = some "str" ∨ tyName d = some "tuple" ∨ tyName d = some "list") : m_is_integer [d] S = .ok (.bl false) S := by
  rcases h with h | h | h | h | h <;> simp [m_is_integer, f_is_integer, N_is_integer, startE, gIsi, isTy, h]
theorem is_whole_no {a b : D} (h : m_is_integer [d] S = .ok (.bl false) S) : m_is_whole [d, a, b] S = .ok (.bl false) S := by
  simp [m_is_whole, f_is_whole, N_is_whole, startE, h]
theorem need_whole_int (h1 : l ≤ v) (h2 : v ≤ h) : m_need_whole [.int v, .int l, .int h] S = .ok .non S := by
  simp [m_need_whole, f_need_whole, N_need_whole, startE, is_whole_int, h1, h2]
end

theorem power_in {S : Store} {a g : Int} {t : Nat} (hg : 0 < g) (gs : g.natAbs < 2 ^ 1000) (ht : t < 2 ^ 1000) : m_power_in [.int a, .int t, .int g] S = .ok (.int (a ^ t % g)) S := by
  have key := while_rule (c := wc1_power_in fuel) (b := wb1_power_in fuel)
    (Q := fun E S' => S' = S ∧ ∃ a' b d e f : Int, E = [some (.fz (.int a')), some (.fz (.int b)), some (.fz (.int g)), some (.fz (.int d)), some (.fz (.int e)), some (.fz (.int f))] ∧ d % g = a ^ t % g)
    (fun m E S' => S' = S ∧ ∃ (b d e : Int) (f : Nat), E = [some (.fz (.int a)), some (.fz (.int b)), some (.fz (.int g)), some (.fz (.int d)), some (.fz (.int e)), some (.fz (.int f))] ∧ d * e ^ f % g = a ^ t % g ∧ d.natAbs < 2 ^ 1000 ∧ e.natAbs < 2 ^ 1000 ∧ f < 2 ^ m)
    (by
      rintro m E S' ⟨rfl, b, d, e, f, rfl, h1, h2, h3, h4⟩
      by_cases hf : f = 0
      · subst hf
        refine .inl ⟨S', by simp [wc1_power_in], rfl, a, b, d, e, 0, rfl, by simpa using h1⟩
      · have hf : 0 < f := by omega
        have hm : m ≠ 0 := fun z => by subst z; simp at h4; omega
        obtain ⟨m, rfl⟩ := Nat.exists_eq_succ_of_ne_zero hm
        have mde := mulOk_s h2 h3 (by decide)
        have mee := mulOk_s h3 h3 (by decide)
        refine .inr ⟨S', [some (.fz (.int a)), some (.fz (.int b)), some (.fz (.int g)), some (.fz (.int (if (f : Int) % 2 = 1 then d * e % g else d))), some (.fz (.int (e * e % g))), some (.fz (.int (f / 2 : Nat)))], S', m, by simp [wc1_power_in, hf], ?_, by omega, rfl, b, _, _, f / 2, rfl, ?_, ?_, emod_abs hg gs, ?_⟩
        · by_cases e1 : (f : Int) % 2 = 1 <;> simp [wb1_power_in, o_mod hg, o_mod (show (0:Int) < 2 by decide), o_div (show (0:Int) < 2 by decide) (by decide), o_mul mde, o_mul mee, e1]
        · rw [pow_turn, h1]
        · split
          · exact emod_abs hg gs
          · exact h2
        · rw [Nat.pow_succ] at h4; omega)
    1000 fuel [some (.fz (.int a)), some (.fz (.int t)), some (.fz (.int g)), some (.fz (.int 1)), some (.fz (.int (a % g))), some (.fz (.int t))] S (by decide)
    ⟨rfl, t, 1, a % g, t, rfl, by rw [Int.one_mul, powm], Nat.one_lt_two_pow (by decide), emod_abs hg gs, ht⟩
  obtain ⟨E', S', k1, rfl, x1, x2, x3, x4, x5, rfl, k2⟩ := key
  simp [m_power_in, f_power_in, N_power_in, startE, o_mod hg, k1, k2]

/-! ### the draws -/
def Cup (S : Store) : Prop := ∃ c r : Int, S = [.lst [.int c, .int r]] ∧ 0 ≤ c ∧ 0 ≤ r
theorem law_cup {ns : List Int} (hn : ns.length ≤ 63) : ∃ S, m__law_cup [.scr ns] [] = .ok (.hd 0) S ∧ Cup S := by
  have hx : ∃ x : Int, atI (ns.map D.int ++ [D.int 0]) 0 = some (.int x) := by
    cases ns with
    | nil => exact ⟨0, rfl⟩
    | cons a l => exact ⟨a, by have : (0:Int) < (l.length:Int) + 1 + 1 := by omega
                               simp [atI, ixN, this]⟩
  obtain ⟨x, hx⟩ := hx
  have hl : gAdd (.lst (ns.map D.int)) (.lst [.int 0]) = some (.lst (ns.map D.int ++ [.int 0])) := by
    unfold gAdd
    simp only [List.length_map, List.length_cons, List.length_nil]
    rw [if_pos (by unfold sizeLine; omega)]
  have hi : gIx (.lst (ns.map D.int ++ [D.int 0])) (.int 0) = some (.int x) := hx
  have m283 : ∀ z : Int, mulOk z 283 = true := fun z => mulOk_r (by decide)
  have ha : ∃ y : Int, 0 ≤ y ∧ gAbs [.int x] = some (.int y) := ⟨_, by split <;> omega, rfl⟩
  obtain ⟨y, hy, ha⟩ := ha
  have hp : gPow (.int 10) (.int 18) = some (.int 1000000000000000000) := by rw [o_pow (by decide) (by decide) (by decide)]; rfl
  by_cases e : 1000000000000000000 ≤ y
  · refine ⟨_, by simp [m__law_cup, f__law_cup, N__law_cup, startE, gList, hl, hi, ha, hp, e, fRetH, gInt, o_mul (m283 y), o_div (show (0:Int) < 73 by decide) (by decide), o_mod (show (0:Int) < 2077503167 by decide)]; exact ⟨rfl, rfl⟩, _, _, rfl, by omega, by omega⟩
  · refine ⟨_, by simp [m__law_cup, f__law_cup, N__law_cup, startE, gList, hl, hi, ha, hp, e, fRetH, gInt, o_mul (m283 y), o_div (show (0:Int) < 73 by decide) (by decide), o_mod (show (0:Int) < 2077503167 by decide)]; exact ⟨rfl, rfl⟩, _, _, rfl, by omega, by omega⟩
theorem law_roll {S : Store} {k : Int} (h : Cup S) (h0 : 0 < k) (h1 : k < 2 ^ 64) : ∃ (x : Int) (S' : Store), m__law_roll [.hd 0, .int k] S = .ok (.int x) S' ∧ Cup S' ∧ 0 ≤ x ∧ x < k := by
  obtain ⟨c, r, rfl, hc, hr⟩ := h
  have x0 : ∀ a b : D, atI [a, b] 0 = some a := fun _ _ => rfl
  have x1 : ∀ a b : D, atI [a, b] 1 = some b := fun _ _ => rfl
  have i0 : ixN 2 0 = some 0 := rfl
  have i1 : ixN 2 1 = some 1 := rfl
  have hk : k.natAbs.log2 < 9000 := by
    have := log2_le (nat_lt_of (by omega) h1)
    omega
  by_cases e : 0 < c
  · refine ⟨c % k, _, by simp [m__law_roll, f__law_roll, N__law_roll, startE, fIxH, fSetIxH, x0, x1, i0, i1, e, gInt, o_mod h0, o_div h0 hk], ⟨c / k, r, rfl, Int.ediv_nonneg hc (by omega), hr⟩, Int.emod_nonneg _ (by omega), Int.emod_lt_of_pos _ h0⟩
  · let y := (r * 31051 + 7993) % 2147483543
    have ey : (r * 31051 + 7993) % 2147483543 = y := rfl
    have y0 : 0 ≤ y := Int.emod_nonneg _ (by decide)
    have y1 : y < 2147483543 := Int.emod_lt_of_pos _ (by decide)
    have m1 : mulOk r 31051 = true := mulOk_r (by decide)
    have m2 : mulOk y (y + 229) = true := mulOk_l (by omega)
    refine ⟨(y * (y + 229)) % 2147483587 / 821 % k, _, by simp [m__law_roll, f__law_roll, N__law_roll, startE, fIxH, fSetIxH, x0, x1, i0, i1, e, gInt, o_mod h0, o_mod (show (0:Int) < 2147483543 by decide), o_mod (show (0:Int) < 2147483587 by decide), o_div (show (0:Int) < 821 by decide) (by decide), o_mul m1, ey, o_mul m2], ⟨c, y, rfl, hc, y0⟩, Int.emod_nonneg _ (by omega), Int.emod_lt_of_pos _ h0⟩

/-! ### sorts, and likeness -/
def sortD : D → Int
  | .non => 0
  | .bl _ => 1
  | .int _ => 2
  | .str _ => 3
  | .tup _ => 4
  | .lst _ => 5
  | _ => 6
theorem law_sort {S : Store} {d : D} (h : tyName d ≠ none) : m__law_sort [d] S = .ok (.int (sortD d)) S := by
  cases d <;> first | (exfalso; exact h rfl) | simp [m__law_sort, f__law_sort, N__law_sort, startE, gIs, gIsi, tyName, isTy, sortD]
section
variable {S : Store} {l : List D} {i : Int} {b : Bool} {t : Str}
@[simp] theorem so_non : m__law_sort [.non] S = .ok (.int 0) S := law_sort (by decide)
@[simp] theorem so_bl : m__law_sort [.bl b] S = .ok (.int 1) S := law_sort (by simp [tyName])
@[simp] theorem so_int : m__law_sort [.int i] S = .ok (.int 2) S := law_sort (by simp [tyName])
@[simp] theorem so_str : m__law_sort [.str t] S = .ok (.int 3) S := law_sort (by simp [tyName])
@[simp] theorem so_tup : m__law_sort [.tup l] S = .ok (.int 4) S := law_sort (by simp [tyName])
@[simp] theorem so_lst : m__law_sort [.lst l] S = .ok (.int 5) S := law_sort (by simp [tyName])
end
theorem eq_non : gEq .non .non = some (.bl true) := rfl
theorem eq_str {t : Str} : gEq (.str t) (.str t) = some (.bl true) := by simp [gEq, eqD, scalD]
/-- data without references, of small depth -/
def plainD : Nat → D → Bool
  | _, .non => true
  | _, .bl _ => true
  | _, .int _ => true
  | _, .str _ => true
  | k + 1, .tup l => decide (l.length ≤ 1000000) && l.all (plainD k)
  | k + 1, .lst l => decide (l.length ≤ 1000000) && l.all (plainD k)
  | _, _ => false
theorem zip_none {S : Store} {mr : MF} {a b c : Option Sl} : ∀ {l : List D}, (∀ d ∈ l, ∀ S, mr [d, d] S = .ok (.bl true) S) →
    lcL (gT (gConss (gN 3) (gConss (gN 4) gNils))) (lt1__law_like mr fuel) (le1__law_like fuel) (zipD l l) [a, b, c, none, none] S = .ok [] S
  | [], _ => rfl
  | d :: l, h => by
    have ih := zip_none (S := S) (a := a) (b := b) (c := c) (fun x hx => h x (List.mem_cons_of_mem _ hx))
    have hd := h d (List.mem_cons_self ..)
    have g0 : gT (gConss (gN 3) (gConss (gN 4) gNils)) (.tup [d, d]) [a, b, c, none, none] = some [a, b, c, some (.fz d), some (.fz d)] := rfl
    have hc : lt1__law_like mr fuel [a, b, c, some (.fz d), some (.fz d)] S = .ok false S := by simp [lt1__law_like, hd]
    simp only [zipD, lcL, g0, hc, e_bindN_ok]
    exact ih
theorem zip_short (l : List D) : (zipD l l).length = l.length := by rw [zipD_len]; omega
theorem eq_nil : gEq (.lst []) (.lst []) = some (.bl true) := by
  have h : SeqAt.shaped (PyData.list []) = true := by decide +kernel
  simp [gEq, eqD, scalD, deepD, D.py, D.pys, PyData.eqv, PyData.eqvAll, h]
theorem in45 {j : Int} : gIn (.int j) (.tup [.int 4, .int 5]) = some (.bl (4 == j || 5 == j)) := by
  simp [gIn, gInB, flatD, inF, eqF]
theorem like_self : ∀ {k : Nat} {d : D} {S : Store}, plainD k d = true → mk__law_like (k + 1) [d, d] S = .ok (.bl true) S := by
  intro k
  induction k with
  | zero =>
    intro d S h
    cases d <;> first | (cases h; done) | simp [mk__law_like, f__law_like, N__law_like, startE, in45, eq_non, eq_str]
  | succ k ih =>
    intro d S h
    rw [mk__law_like]
    cases d with
    | tup l =>
      simp only [plainD, Bool.and_eq_true, List.all_eq_true, decide_eq_true_eq] at h
      simp [f__law_like, N__law_like, startE, in45, gLen, zip?, wipeE, fLc, zip_short, h.1, zip_none (fun d hd S => ih (h.2 d hd)), eq_nil]
    | lst l =>
      simp only [plainD, Bool.and_eq_true, List.all_eq_true, decide_eq_true_eq] at h
      simp [f__law_like, N__law_like, startE, in45, gLen, zip?, wipeE, fLc, zip_short, h.1, zip_none (fun d hd S => ih (h.2 d hd)), eq_nil]
    | non => simp [f__law_like, N__law_like, startE, in45, eq_non, eq_str]
    | int i => simp [f__law_like, N__law_like, startE, in45, eq_non, eq_str]
    | bl i => simp [f__law_like, N__law_like, startE, in45, eq_non, eq_str]
    | str i => simp [f__law_like, N__law_like, startE, in45, eq_non, eq_str]
    | _ => cases h
theorem like {d : D} {S : Store} (h : plainD 7 d = true) : m__law_like [d, d] S = .ok (.bl true) S := like_self h

theorem law_power {S : Store} {a g : Int} {t : Nat} (hg : 0 < g) (gs : g.natAbs < 2 ^ 1000) (ht : t < 2 ^ 1000) : m__law_power [.int a, .int t, .int g] S = .ok (.int (a ^ t % g)) S := by
  have key := while_rule (c := wc1__law_power fuel) (b := wb1__law_power fuel)
    (Q := fun E S' => S' = S ∧ ∃ a' b d e : Int, E = [some (.fz (.int a')), some (.fz (.int b)), some (.fz (.int g)), some (.fz (.int d)), some (.fz (.int e))] ∧ d % g = a ^ t % g)
    (fun m E S' => S' = S ∧ ∃ (d e : Int) (f : Nat), E = [some (.fz (.int a)), some (.fz (.int f)), some (.fz (.int g)), some (.fz (.int d)), some (.fz (.int e))] ∧ d * e ^ f % g = a ^ t % g ∧ d.natAbs < 2 ^ 1000 ∧ e.natAbs < 2 ^ 1000 ∧ f < 2 ^ m)
    (by
      rintro m E S' ⟨rfl, d, e, f, rfl, h1, h2, h3, h4⟩
      by_cases hf : f = 0
      · subst hf
        refine .inl ⟨S', by simp [wc1__law_power], rfl, a, 0, d, e, rfl, by simpa using h1⟩
      · have hf : 0 < f := by omega
        have hm : m ≠ 0 := fun z => by subst z; simp at h4; omega
        obtain ⟨m, rfl⟩ := Nat.exists_eq_succ_of_ne_zero hm
        have mde := mulOk_s h2 h3 (by decide)
        have mee := mulOk_s h3 h3 (by decide)
        refine .inr ⟨S', [some (.fz (.int a)), some (.fz (.int (f / 2 : Nat))), some (.fz (.int g)), some (.fz (.int (if (f : Int) % 2 = 1 then d * e % g else d))), some (.fz (.int (e * e % g)))], S', m, by simp [wc1__law_power, hf], ?_, by omega, rfl, _, _, f / 2, rfl, ?_, ?_, emod_abs hg gs, ?_⟩
        · by_cases e1 : (f : Int) % 2 = 1 <;> simp [wb1__law_power, gInt, o_mod hg, o_mod (show (0:Int) < 2 by decide), o_div (show (0:Int) < 2 by decide) (by decide), o_mul mde, o_mul mee, e1]
        · rw [pow_turn, h1]
        · split
          · exact emod_abs hg gs
          · exact h2
        · rw [Nat.pow_succ] at h4; omega)
    1000 fuel [some (.fz (.int a)), some (.fz (.int t)), some (.fz (.int g)), some (.fz (.int 1)), some (.fz (.int (a % g)))] S (by decide)
    ⟨rfl, 1, a % g, t, rfl, by rw [Int.one_mul, powm], Nat.one_lt_two_pow (by decide), emod_abs hg gs, ht⟩
  obtain ⟨E', S', k1, rfl, x1, x2, x3, x4, rfl, k2⟩ := key
  simp [m__law_power, f__law_power, N__law_power, startE, gInt, o_mod hg, k1, k2]

theorem law_some {S : Store} {l : List D} (hc : Cup S) (h0 : 0 < l.length) (h1 : l.length < 2 ^ 60) : ∃ S' d, Cup S' ∧ d ∈ l ∧ m__law_some [.hd 0, .lst l] S = .ok d S' := by
  obtain ⟨x, S', r1, r2, r3, r4⟩ := law_roll hc (k := l.length) (by omega) (by omega)
  have hx : x.toNat < l.length := by omega
  refine ⟨S', l[x.toNat], r2, List.getElem_mem hx, ?_⟩
  have gl : gLen [.lst l] = some (.int l.length) := rfl
  have gi : gIx (.lst l) (.int x) = some l[x.toNat] := by
    show atI l x = _
    unfold atI
    have : ixN l.length x = some x.toNat := by
      unfold ixN
      rw [if_pos r3, if_pos r4]
    rw [this]
    exact List.getElem?_eq_getElem hx
  simp [m__law_some, f__law_some, N__law_some, startE, gl, r1, gi]

theorem lp_loop {S : Store} {n : Int} (hn : n < 2 ^ 60) : ∀ (k : Nat) (p : Int), 0 < p → p ≤ n + 1 → n + 1 - p ≤ k → ∀ m, k < m → 
    bodyR (thenF (whileL (wc1__law_is_prime fuel) (wb1__law_is_prime fuel) m [some (.fz (.int n)), some (.fz (.int p))] S) (fRet (fC (.bl true))) fuel) = .ok (.bl (NT.tri n k p)) S
  | k, p, h0, h1, h2, m + 1, hm => by
    have mk : mulOk p p = true := mulOk_l (by omega)
    by_cases c1 : p * p ≤ n
    · have hp : p * 1 ≤ p * p := Int.mul_le_mul_of_nonneg_left (by omega) (by omega)
      cases k with
      | zero => omega
      | succ k =>
        unfold NT.tri
        rw [if_pos c1]
        by_cases c2 : n % p = 0
        · simp [wc1__law_is_prime, wb1__law_is_prime, whileL, o_mul mk, c1, o_mod h0, c2, gInt]
        · rw [if_neg c2]
          have ih := lp_loop (S := S) hn k (p + 1) (by omega) (by omega) (by omega) m (by omega)
          simp [wc1__law_is_prime, wb1__law_is_prime, whileL, o_mul mk, c1, o_mod h0, c2, gInt]
          simpa [wc1__law_is_prime, wb1__law_is_prime] using ih
    · have e : NT.tri n k p = true := by cases k <;> simp [NT.tri, c1]
      rw [e]
      simp [wc1__law_is_prime, wb1__law_is_prime, whileL, o_mul mk, c1]
theorem law_is_prime {S : Store} {n : Int} (hn : n < 2 ^ 60) : m__law_is_prime [.int n] S = .ok (.bl (NT.pmb n)) S := by
  by_cases c1 : n < 2
  · simp [m__law_is_prime, f__law_is_prime, N__law_is_prime, startE, c1, NT.pmb_small c1]
  · have e : NT.pmb n = NT.tri n (n - 1).toNat 2 := by
      refine NT.pmb_tri (by omega) ?_
      have : (2 + ((n - 1).toNat : Int)) = n + 1 := by omega
      rw [this]
      have : (n + 1) * 1 ≤ (n + 1) * (n + 1) := Int.mul_le_mul_of_nonneg_left (by omega) (by omega)
      omega
    have := lp_loop (S := S) hn (n - 1).toNat 2 (by decide) (by omega) (by omega) fuel (by unfold fuel; omega)
    rw [e]
    simp [m__law_is_prime, f__law_is_prime, N__law_is_prime, startE, c1]
    simpa using this

end LW

end

section
set_option autoImplicit false
set_option autoImplicit false
namespace LW
open PySem PySem.Spec PyProof.Rows L2 DL NT
theorem big60 {n : Nat} (h : n < 2 ^ 60) : n < 2 ^ 1000 := by
  have : (2 : Nat) ^ 60 ≤ 2 ^ 1000 := Nat.pow_le_pow_right (by decide) (by decide)
  omega
theorem rng_nat (n : Nat) : (rngI 0 1 n).map D.int = (List.range n).map fun k : Nat => D.int k := by
  unfold rngI
  rw [List.map_map]
  apply List.map_congr_left
  intro x _
  simp
/-- powers of rests by a number -/
def pm (u e m : Nat) : Nat := u ^ e % m
theorem pw_in {S : Store} {u e m : Nat} (hm : 0 < m) (hm2 : m < 2 ^ 1000) (he : e < 2 ^ 1000) : m_power_in [.int u, .int e, .int m] S = .ok (.int (pm u e m : Nat)) S := by
  have h := power_in (S := S) (a := u) (g := m) (t := e) (by omega) (by omega) he
  rw [h]
  unfold pm
  push_cast
  rfl
/-- all powers, by rests -/
def PL (n t : Nat) : List Int := (List.range n).map fun k : Nat => ((pm k t n : Nat) : Int)
theorem PL_len (n t : Nat) : (PL n t).length = n := by simp [PL]
theorem powers_in {S : Store} {n t : Nat} (h1 : 1 ≤ n) (h2 : n ≤ 500) (t2 : t ≤ 12) : m_powers_in [.int n, .int t] S = .ok (.lst ((PL n t).map D.int)) S := by
  have r := rng1_ok (j := n) (by omega) (by omega)
  have e : ((n : Int)).toNat = n := by omega
  rw [e, rng_nat] at r
  have l := lcL_yes (g := gN 2) (e := le1_powers_in fuel) (E := [some (.fz (.int n)), some (.fz (.int t)), none]) (S := S) (n := fuel) (fun k : Nat => D.int k) (fun k : Nat => D.int (pm k t n : Nat)) (List.range n) fun k hk => by
    have hk := List.mem_range.mp hk
    have p := fun S => pw_in (S := S) (u := k) (e := t) (m := n) (by omega) (big60 (by omega)) (by omega)
    exact ⟨[some (.fz (.int n)), some (.fz (.int t)), some (.fz (.int k))], rfl, by simp [le1_powers_in, p]⟩
  have hm : (List.range n).map (fun k : Nat => D.int (pm k t n : Nat)) = (PL n t).map D.int := by unfold PL; rw [List.map_map]; rfl
  rw [hm] at l
  have hn6 : n ≤ 1000000 := by omega
  obtain ⟨P, hP⟩ : ∃ P, P = (PL n t).map D.int := ⟨_, rfl⟩
  rw [← hP] at l ⊢
  have hlen : ((List.range n).map fun k : Nat => D.int k).length ≤ 1000000 := by simp; omega
  obtain ⟨R, hR⟩ : ∃ R, R = (List.range n).map fun k : Nat => D.int k := ⟨_, rfl⟩
  rw [← hR] at l r hlen
  have lc : fLc (fLift rng1? (fCons (fVar 0) fNil)) (gN 2) fYes le1_powers_in [2] fuel [some (.fz (.int n)), some (.fz (.int t)), none] S = .ok (.lst P) S := by
    simp [fLc, r, wipeE, l, hlen]
  simp [m_powers_in, f_powers_in, N_powers_in, startE, lc]
theorem need_times_ok {S : Store} {t : Nat} (h1 : 2 ≤ t) (h2 : t ≤ 12) : m_need_times [.int t] S = .ok .non S := by
  have a : (2 : Int) ≤ t := by omega
  have b : (t : Int) ≤ 12 := by omega
  simp [m_need_times, f_need_times, N_need_times, startE, is_whole_int, a, b]
theorem need_rest_ok {S : Store} {n x : Int} (h1 : 0 ≤ x) (h2 : x < n) : m_need_rest [.int n, .int x] S = .ok .non S := by
  have b : x ≤ n - 1 := by omega
  simp [m_need_rest, f_need_rest, N_need_rest, startE, is_whole_int, h1, b]
theorem need_few_ok {S : Store} {n t : Nat} (h1 : 1 ≤ n) (h2 : n ≤ 500) (t1 : 2 ≤ t) (t2 : t ≤ 12) : m_need_few [.int n, .int t] S = .ok .non S := by
  have nw : ∀ S, m_need_whole [.int n, .int 1, .int 500] S = .ok .non S := fun S => need_whole_int (by omega) (by omega)
  simp [m_need_few, f_need_few, N_need_few, startE, nw, need_times_ok t1 t2]
end LW

end

section
set_option autoImplicit false
set_option autoImplicit false
namespace LW
open PySem PySem.Spec PyProof.Rows L2 DL NT
/-! ### the dict of powers -/
def dk (ks : List Int) : List (Key × D) := ks.map fun k => (.inl k, .bl true)
theorem lk_dk (k : Int) : ∀ ks : List Int, (lkD (dk ks) (.inl k)).isSome = decide (k ∈ ks)
  | [] => rfl
  | a :: ks => by
    have ih := lk_dk k ks
    unfold lkD dk at ih ⊢
    rw [List.map_cons, List.find?_cons]
    by_cases c : a = k
    · subst c; simp
    · have c2 : decide ((Sum.inl a : Key) = Sum.inl k) = false := by simp [c]
      simp only [c2]
      rw [ih]
      simp [Ne.symm c]
theorem pu_dk {ks : List Int} {k : Int} : puD (dk ks) (.inl k) (.bl true) = dk (if k ∈ ks then ks else ks ++ [k]) := by
  unfold puD
  have e : ((dk ks).any fun kv => decide (kv.1 = (.inl k : Key))) = decide (k ∈ ks) := by
    induction ks with
    | nil => rfl
    | cons a ks ih =>
      unfold dk at ih ⊢
      rw [List.map_cons, List.any_cons, ih]
      by_cases c : a = k
      · subst c; simp
      · simp [c, Ne.symm c]
  rw [e]
  by_cases c : k ∈ ks
  · simp only [c, decide_true, if_true]
    unfold dk
    rw [List.map_map]
    apply List.map_congr_left
    intro x _
    simp only [Function.comp]
    split <;> rfl
  · simp only [c, decide_false, if_false]
    unfold dk
    simp
theorem keys_dk : ∀ ks : List Int, keysI? (dk ks) = some ks
  | [] => rfl
  | a :: ks => by
    have ih := keys_dk ks
    unfold dk at ih ⊢
    rw [List.map_cons, keysI?, ih]; rfl
/-- keys, one after the other -/
def addAll (ks : List Int) : List Int → List Int
  | [] => ks
  | x :: xs => addAll (if x ∈ ks then ks else ks ++ [x]) xs
theorem merge_dk : ∀ (xs ks : List Int), mergeD (dk ks) (xs.map fun x => (.inl x, .bl true)) = dk (addAll ks xs)
  | [], ks => rfl
  | x :: xs, ks => by
    have ih := merge_dk xs (if x ∈ ks then ks else ks ++ [x])
    show mergeD (puD (dk ks) (.inl x) (.bl true)) (xs.map fun x => (.inl x, .bl true)) = _
    rw [pu_dk, ih]; rfl
theorem mem_addAll {i : Int} : ∀ (xs ks : List Int), i ∈ addAll ks xs ↔ i ∈ ks ∨ i ∈ xs
  | [], ks => by simp [addAll]
  | x :: xs, ks => by
    show i ∈ addAll (if x ∈ ks then ks else ks ++ [x]) xs ↔ _
    rw [mem_addAll xs, List.mem_cons]
    split
    · rename_i h
      constructor
      · rintro (a | a)
        · exact .inl a
        · exact .inr (.inr a)
      · rintro (a | a | a)
        · exact .inl a
        · subst a; exact .inl h
        · exact .inr a
    · rw [List.mem_append, List.mem_singleton, or_assoc]
theorem addAll_nodup : ∀ (xs ks : List Int), ks.Nodup → (addAll ks xs).Nodup
  | [], ks, h => h
  | x :: xs, ks, h => by
    refine addAll_nodup xs _ ?_
    split
    · exact h
    · rename_i hh
      rw [List.nodup_append]
      exact ⟨h, by simp, fun a ha b hb e => hh (by rw [List.mem_singleton.mp hb] at e; rw [← e]; exact ha)⟩
theorem dict_true (xs : List Int) : gDictP [.lst (xs.map fun x => D.tup [.int x, .bl true])] = some (dk (addAll [] xs)) := by
  show (prD? _).map _ = _
  rw [prD_true, Option.map_some]
  exact congrArg some (merge_dk xs [])
end LW

end

section
set_option autoImplicit false
set_option autoImplicit false
namespace LW
open PySem PySem.Spec PyProof.Rows L2 DL NT
theorem len_sub {l m : List Int} (hn : l.Nodup) (h : ∀ a ∈ l, a ∈ m) : l.length ≤ m.length := by
  apply Classical.byContradiction
  intro w
  have := (perm_of_sub hn h (by omega)).length_eq
  omega
theorem few_res {n : Nat} {l : List Int} (hn : l.Nodup) (h : ∀ a ∈ l, 0 ≤ a ∧ a < n) : l.length ≤ n := by
  have := len_sub (m := rngI 0 1 n) hn fun a ha => by
    obtain ⟨h1, h2⟩ := h a ha
    exact mem_rngI.mpr ⟨a.toNat, by omega, by omega⟩
  rwa [rngI_length] at this
/-- the powers, ascending -/
def PS (n t : Nat) : List Int := setI (PL n t)
theorem mem_PS {n t : Nat} {x : Int} : x ∈ PS n t ↔ ∃ k, k < n ∧ x = (pm k t n : Nat) := by
  unfold PS PL
  rw [mem_setI, List.mem_map]
  constructor
  · rintro ⟨k, hk, rfl⟩; exact ⟨k, List.mem_range.mp hk, rfl⟩
  · rintro ⟨k, hk, rfl⟩; exact ⟨k, List.mem_range.mpr hk, rfl⟩
theorem PS_res {n t : Nat} (h1 : 1 ≤ n) {x : Int} (h : x ∈ PS n t) : 0 ≤ x ∧ x < n := by
  obtain ⟨k, _, rfl⟩ := mem_PS.mp h
  have : pm k t n < n := Nat.mod_lt _ (by omega)
  omega
theorem PS_len {n t : Nat} (h1 : 1 ≤ n) : (PS n t).length ≤ n :=
  few_res ((sortI_perm _).nodup_iff.mpr (dedupI_nodup _)) fun a ha => PS_res h1 ha
/-- sums of so many powers, in the order in which they come -/
def SS (n t : Nat) : Nat → List Int
  | 0 => [0]
  | j + 1 => addAll [] ((SS n t j).flatMap fun o => (PS n t).map fun m => (o + m) % (n : Int))
theorem SS_nodup (n t : Nat) : ∀ j, (SS n t j).Nodup
  | 0 => by simp [SS]
  | j + 1 => addAll_nodup _ _ List.nodup_nil
theorem mem_SS_succ {n t j : Nat} {x : Int} : x ∈ SS n t (j + 1) ↔ ∃ o ∈ SS n t j, ∃ m ∈ PS n t, x = (o + m) % (n : Int) := by
  show x ∈ addAll [] _ ↔ _
  rw [mem_addAll]
  simp only [List.not_mem_nil, false_or, List.mem_flatMap, List.mem_map]
  constructor
  · rintro ⟨o, ho, m, hm, rfl⟩; exact ⟨o, ho, m, hm, rfl⟩
  · rintro ⟨o, ho, m, hm, rfl⟩; exact ⟨o, ho, m, hm, rfl⟩
theorem SS_res {n t : Nat} (h1 : 1 ≤ n) : ∀ {j : Nat} {x : Int}, x ∈ SS n t j → 0 ≤ x ∧ x < n
  | 0, x, h => by simp [SS] at h; omega
  | j + 1, x, h => by
    obtain ⟨o, _, m, _, rfl⟩ := mem_SS_succ.mp h
    exact ⟨Int.emod_nonneg _ (by omega), Int.emod_lt_of_pos _ (by omega)⟩
theorem SS_len {n t j : Nat} (h1 : 1 ≤ n) : (SS n t j).length ≤ n := few_res (SS_nodup n t j) fun a ha => SS_res h1 ha
theorem flat_len {α β : Type} (f : α → List β) (k : Nat) : ∀ l : List α, (∀ a ∈ l, (f a).length = k) → (l.flatMap f).length = l.length * k
  | [], _ => by simp
  | a :: l, h => by
    rw [List.flatMap_cons, List.length_append, flat_len f k l fun b hb => h b (List.mem_cons_of_mem _ hb), h a (List.mem_cons_self ..), List.length_cons, Nat.add_mul, Nat.one_mul, Nat.add_comm]
theorem keys_map (ks : List Int) : (dk ks).map (fun q => kD q.1) = ks.map D.int := by
  unfold dk
  rw [List.map_map]; rfl
theorem so_loop {S : Store} {n t : Nat} {a2 : Option Sl} (h1 : 1 ≤ n) (h2 : n ≤ 500) : ∀ (k : Nat) (lo : Int) (j : Nat) (x : Option Sl), ∃ y,
    forL (gN 5) (fb1_sums_of fuel) ((rngI lo 1 k).map D.int) [some (.fz (.int n)), some (.fz (.int t)), a2, some (.fz (.lst ((PS n t).map D.int))), some (.fz (.dct (dk (SS n t j)))), x, none, none] S =
      .nx [some (.fz (.int n)), some (.fz (.int t)), a2, some (.fz (.lst ((PS n t).map D.int))), some (.fz (.dct (dk (SS n t (j + k))))), y, none, none] S
  | 0, lo, j, x => ⟨x, by simp [rngI]⟩
  | k + 1, lo, j, x => by
    obtain ⟨y, ih⟩ := so_loop (S := S) (t := t) (a2 := a2) h1 h2 k (lo + 1) (j + 1) (some (.fz (.int lo)))
    refine ⟨y, ?_⟩
    have ej : j + 1 + k = j + (k + 1) := by omega
    rw [ej] at ih
    have pl := PS_len (t := t) h1
    have sl := SS_len (t := t) (j := j) h1
    obtain ⟨P, hP⟩ : ∃ P, P = PS n t := ⟨_, rfl⟩
    obtain ⟨A, hA⟩ : ∃ A, A = SS n t j := ⟨_, rfl⟩
    have next : SS n t (j + 1) = addAll [] (A.flatMap fun o => P.map fun m => (o + m) % (n : Int)) := by rw [hA, hP]; rfl
    rw [next] at ih
    rw [← hP] at ih pl ⊢
    rw [← hA] at sl ⊢
    have flen : (A.flatMap fun o => P.map fun m => D.tup [.int ((o + m) % (n : Int)), .bl true]).length ≤ 1000000 := by
      rw [flat_len _ P.length A fun a _ => by rw [List.length_map]]
      have : A.length * P.length ≤ 500 * 500 := Nat.mul_le_mul (by omega) (by omega)
      omega
    have fmap : (A.flatMap fun o => P.map fun m => D.tup [.int ((o + m) % (n : Int)), .bl true]) = (A.flatMap fun o => P.map fun m => (o + m) % (n : Int)).map fun x => D.tup [.int x, .bl true] := by
      rw [List.map_flatMap]
      congr 1
      funext o
      rw [List.map_map]; rfl
    have lc := lc2_ok (it := fKeys (fVar 4)) (it1 := fIt (fVar 3)) (g := gN 6) (g1 := gN 7) (e := le1_sums_of) (vs := [6, 7]) (vs1 := [7]) (n := fuel)
      (E := [some (.fz (.int n)), some (.fz (.int t)), a2, some (.fz (.lst (P.map D.int))), some (.fz (.dct (dk A))), some (.fz (.int lo)), none, none]) (S := S) (ds := A.map D.int)
      (by simp [keys_map]) (lc2L_yes P (fun o m => D.tup [.int ((o + m) % (n : Int)), .bl true]) A fun o ho => ⟨[some (.fz (.int n)), some (.fz (.int t)), a2, some (.fz (.lst (P.map D.int))), some (.fz (.dct (dk A))), some (.fz (.int lo)), some (.fz (.int o)), none], rfl, by simp [fIt],
        fun m hm => ⟨[some (.fz (.int n)), some (.fz (.int t)), a2, some (.fz (.lst (P.map D.int))), some (.fz (.dct (dk A))), some (.fz (.int lo)), some (.fz (.int o)), some (.fz (.int m))], rfl, by simp [le1_sums_of, o_mod (show (0 : Int) < n by omega)]⟩⟩) flen
    rw [fmap] at lc
    have dt := dict_true (A.flatMap fun o => P.map fun m => (o + m) % (n : Int))
    obtain ⟨L, hL⟩ : ∃ L, L = (A.flatMap fun o => P.map fun m => (o + m) % (n : Int)).map fun x => D.tup [.int x, .bl true] := ⟨_, rfl⟩
    rw [← hL] at lc dt
    rw [rngI_succ, List.map_cons, for_nx (E1 := [some (.fz (.int n)), some (.fz (.int t)), a2, some (.fz (.lst (P.map D.int))), some (.fz (.dct (dk A))), some (.fz (.int lo)), none, none])
      (E2 := [some (.fz (.int n)), some (.fz (.int t)), a2, some (.fz (.lst (P.map D.int))), some (.fz (.dct (dk (addAll [] (A.flatMap fun o => P.map fun m => (o + m) % (n : Int)))))), some (.fz (.int lo)), none, none]) (S2 := S) rfl ?_]
    · exact ih
    · simp [fb1_sums_of, lc, dt]
end LW

end

section
set_option autoImplicit false
set_option autoImplicit false
namespace LW
open PySem PySem.Spec PyProof.Rows L2 DL NT
/-- sums of so many powers, ascending -/
def SO (n t j : Nat) : List Int := sortI (SS n t j)
theorem mem_SO {n t j : Nat} {x : Int} : x ∈ SO n t j ↔ x ∈ SS n t j := (sortI_perm _).mem_iff
theorem SO_asc (n t j : Nat) : (SO n t j).Pairwise (· < ·) := lt_of_le_nodup _ (sortI_sorted _) ((sortI_perm _).nodup_iff.mpr (SS_nodup n t j))
theorem sums_of {S : Store} {n t j : Nat} (h1 : 1 ≤ n) (h2 : n ≤ 500) (t2 : t ≤ 12) (hj : j < 1000) : m_sums_of [.int n, .int t, .int j] S = .ok (.lst ((SO n t j).map D.int)) S := by
  have pi := fun S => powers_in (S := S) h1 h2 t2
  have gs : gSetS (.lst ((PL n t).map D.int)) = some (.lst ((PS n t).map D.int)) := by
    show (if ((PL n t).map D.int).length ≤ 4000 then _ else _) = _
    rw [List.length_map, if_pos (by rw [PL_len]; omega), ints?_map]
    rfl
  have r := rng1_ok (j := j) (by omega) (by omega)
  have e : ((j : Int)).toNat = j := by omega
  rw [e] at r
  obtain ⟨y, l⟩ := so_loop (S := S) (t := t) (a2 := some (.fz (.int j))) h1 h2 j 0 0 none
  rw [Nat.zero_add] at l
  have gd : gSortedD [.dct (dk (SS n t j))] = some (.lst ((SO n t j).map D.int)) := by
    show (keysI? _).map _ = _
    rw [keys_dk]; rfl
  have l : forL (gN 5) (fb1_sums_of fuel) ((rngI 0 1 j).map D.int) [some (.fz (.int n)), some (.fz (.int t)), some (.fz (.int j)), some (.fz (.lst ((PS n t).map D.int))), some (.fz (.dct [(.inl 0, .bl true)])), none, none, none] S = _ := l
  obtain ⟨P0, hP0⟩ : ∃ P0, P0 = (PL n t).map D.int := ⟨_, rfl⟩
  obtain ⟨P, hP⟩ : ∃ P, P = (PS n t).map D.int := ⟨_, rfl⟩
  obtain ⟨O, hO⟩ : ∃ O, O = (SO n t j).map D.int := ⟨_, rfl⟩
  obtain ⟨K, hK⟩ : ∃ K, K = dk (SS n t j) := ⟨_, rfl⟩
  rw [← hP0] at pi gs
  rw [← hP] at gs l
  rw [← hO] at gd ⊢
  rw [← hK] at gd l
  simp [m_sums_of, f_sums_of, N_sums_of, startE, pi, gs, keyD, r, l, gd]
theorem rests_of_sums {S : Store} {n t j : Nat} (h1 : 1 ≤ n) (h2 : n ≤ 500) (t1 : 2 ≤ t) (t2 : t ≤ 12) (j1 : 1 ≤ j) (j2 : j ≤ 20) : m_rests_of_sums [.int n, .int t, .int j] S = .ok (.tup ((SO n t j).map D.int)) S := by
  have nf := fun S => need_few_ok (S := S) h1 h2 t1 t2
  have nw : ∀ S, m_need_whole [.int j, .int 1, .int 20] S = .ok .non S := fun S => need_whole_int (by omega) (by omega)
  have so := fun S => sums_of (S := S) (t := t) h1 h2 t2 (show j < 1000 by omega)
  obtain ⟨O, hO⟩ : ∃ O, O = (SO n t j).map D.int := ⟨_, rfl⟩
  rw [← hO] at so ⊢
  simp [m_rests_of_sums, f_rests_of_sums, N_rests_of_sums, startE, nf, nw, so, gTuple]
end LW

end

section
set_option autoImplicit false
set_option autoImplicit false
namespace LW
open PySem PySem.Spec PyProof.Rows L2 DL NT
/-! ### the dict of counts -/
def cD (l : List (Int × Nat)) : List (Key × D) := l.map fun q => (.inl q.1, .int (q.2 : Nat))
def getC (l : List (Int × Nat)) (k : Int) : Nat := ((l.find? fun q => decide (q.1 = k)).map (·.2)).getD 0
def addC (l : List (Int × Nat)) (k : Int) : List (Int × Nat) := if (l.any fun q => decide (q.1 = k)) = true then l.map (fun q => if q.1 = k then (q.1, getC l k + 1) else q) else l ++ [(k, getC l k + 1)]
theorem lk_cD (k : Int) : ∀ l : List (Int × Nat), (lkD (cD l) (.inl k)).getD (.int 0) = .int (getC l k : Nat)
  | [] => rfl
  | q :: l => by
    have ih := lk_cD k l
    unfold lkD cD getC at ih ⊢
    rw [List.map_cons, List.find?_cons, List.find?_cons]
    by_cases c : q.1 = k
    · have c2 : decide ((Sum.inl q.1 : Key) = Sum.inl k) = true := by simp [c]
      simp only [c2, c, decide_true]; rfl
    · have c2 : decide ((Sum.inl q.1 : Key) = Sum.inl k) = false := by simp [c]
      simp only [c2, c, decide_false]; exact ih
theorem any_cD (k : Int) : ∀ l : List (Int × Nat), ((cD l).any fun kv => decide (kv.1 = (.inl k : Key))) = l.any fun q => decide (q.1 = k)
  | [] => rfl
  | q :: l => by
    have ih := any_cD k l
    unfold cD at ih ⊢
    rw [List.map_cons, List.any_cons, List.any_cons, ih]
    by_cases c : q.1 = k <;> simp [c]
theorem pu_cD {l : List (Int × Nat)} {k : Int} : puD (cD l) (.inl k) (.int (getC l k + 1 : Nat)) = cD (addC l k) := by
  unfold puD addC
  rw [any_cD]
  by_cases c : (l.any fun q => decide (q.1 = k)) = true
  · rw [if_pos c, if_pos c]
    unfold cD
    rw [List.map_map, List.map_map]
    apply List.map_congr_left
    intro q _
    simp only [Function.comp]
    by_cases z : q.1 = k
    · simp [z]
    · simp [z]
  · rw [if_neg c, if_neg c]
    unfold cD
    rw [List.map_append]; rfl
theorem find_set (k j : Int) (v : Nat) : ∀ l : List (Int × Nat), (((l.map fun q => if q.1 = k then (q.1, v) else q).find? fun q => decide (q.1 = j)).map (·.2)) = if k = j then ((l.find? fun q => decide (q.1 = j)).map fun _ => v) else ((l.find? fun q => decide (q.1 = j)).map (·.2))
  | [] => by simp
  | q :: l => by
    have ih := find_set k j v l
    rw [List.map_cons, List.find?_cons, List.find?_cons]
    by_cases c : q.1 = k
    · by_cases c2 : q.1 = j
      · have e : k = j := by rw [← c, c2]
        simp [c, e]
      · have e : ¬ k = j := fun z => c2 (by rw [c, z])
        rw [if_neg e] at ih ⊢
        simp only [c, if_true, e, decide_false]
        exact ih
    · by_cases c2 : q.1 = j
      · have e : ¬ k = j := fun z => c (by rw [c2, z])
        have e' : ¬ j = k := fun z => e z.symm
        rw [if_neg e]
        simp [c2, e']
      · simp only [c, if_false, c2, decide_false]
        exact ih
theorem getC_add (l : List (Int × Nat)) (k j : Int) : getC (addC l k) j = getC l j + if k = j then 1 else 0 := by
  unfold addC
  by_cases c : (l.any fun q => decide (q.1 = k)) = true
  · rw [if_pos c]
    have f := find_set k j (getC l k + 1) l
    show (Option.map _ _).getD 0 = _
    rw [f]
    by_cases e : k = j
    · subst e
      rw [if_pos rfl, if_pos rfl]
      obtain ⟨q, hq, hk⟩ := List.any_eq_true.mp c
      cases z : l.find? fun q => decide (q.1 = k) with
      | none => exact absurd hk (List.find?_eq_none.mp z q hq)
      | some r => rfl
    · rw [if_neg e, if_neg e]; rfl
  · rw [if_neg c]
    have none_k : l.find? (fun q => decide (q.1 = k)) = none := List.find?_eq_none.mpr fun q hq z => c (List.any_eq_true.mpr ⟨q, hq, z⟩)
    unfold getC
    rw [List.find?_append]
    by_cases e : k = j
    · subst e
      rw [none_k, if_pos rfl]
      simp
    · rw [if_neg e]
      cases z : l.find? fun q => decide (q.1 = j) with
      | none => simp [e]
      | some r => simp
end LW

end

section
set_option autoImplicit false
set_option autoImplicit false
namespace LW
open PySem PySem.Spec PyProof.Rows L2 DL NT
def addCs (l : List (Int × Nat)) (xs : List Int) : List (Int × Nat) := xs.foldl addC l
theorem addC_len (l : List (Int × Nat)) (k : Int) : (addC l k).length ≤ l.length + 1 := by
  unfold addC
  split
  · rw [List.length_map]; omega
  · simp
theorem getC_adds (k : Int) : ∀ (xs : List Int) (l : List (Int × Nat)), getC (addCs l xs) k = getC l k + xs.count k
  | [], l => by simp [addCs]
  | x :: xs, l => by
    have ih := getC_adds k xs (addC l x)
    show getC (addCs (addC l x) xs) k = _
    rw [ih, getC_add, List.count_cons]
    by_cases c : x = k
    · simp [c]; omega
    · simp [c]
theorem co_loop {S : Store} {a0 a1 a2 a3 a5 a7 a8 a9 a10 a11 : Option Sl} : ∀ (xs : List Int) (l : List (Int × Nat)) (x : Option Sl), l.length + xs.length < 1000000 → ∃ y,
    forL (gN 6) (fb1_ways_of_sums fuel) (xs.map D.int) [a0, a1, a2, a3, some (.own (.dct (cD l))), a5, x, a7, a8, a9, a10, a11] S =
      .nx [a0, a1, a2, a3, some (.own (.dct (cD (addCs l xs)))), a5, y, a7, a8, a9, a10, a11] S
  | [], l, x, _ => ⟨x, rfl⟩
  | k :: xs, l, x, h => by
    simp only [List.length_cons] at h
    have hl := addC_len l k
    obtain ⟨y, ih⟩ := co_loop (S := S) (a0 := a0) (a1 := a1) (a2 := a2) (a3 := a3) (a5 := a5) (a7 := a7) (a8 := a8) (a9 := a9) (a10 := a10) (a11 := a11) xs (addC l k) (some (.fz (.int k))) (by omega)
    refine ⟨y, ?_⟩
    have gt := lk_cD k l
    have pu := pu_cD (l := l) (k := k)
    obtain ⟨c, hc⟩ : ∃ c, c = getC l k := ⟨_, rfl⟩
    rw [← hc] at gt pu
    have ec : (c : Int) + 1 = ((c + 1 : Nat) : Int) := by omega
    have hlen : (cD l).length < 1000000 := by unfold cD; rw [List.length_map]; omega
    have pu : puD (cD l) (.inl k) (.int ((c : Int) + 1)) = cD (addC l k) := by rw [ec]; exact pu
    rw [List.map_cons, for_nx (E1 := [a0, a1, a2, a3, some (.own (.dct (cD l))), a5, some (.fz (.int k)), a7, a8, a9, a10, a11])
      (E2 := [a0, a1, a2, a3, some (.own (.dct (cD (addC l k)))), a5, some (.fz (.int k)), a7, a8, a9, a10, a11]) (S2 := S) rfl ?_]
    · exact ih
    · simp [fb1_ways_of_sums, e_DSet, keyD, gt, hlen, pu]
end LW

end

section
set_option autoImplicit false
set_option autoImplicit false
namespace LW
open PySem PySem.Spec PyProof.Rows L2 DL NT
/-! ### sums over lists -/
theorem sm_pick {g : Nat → Int} {c : Int} : ∀ {l : List Nat}, l.Nodup → (sm l fun a => if (a : Int) = c then g a else 0) = if 0 ≤ c ∧ c.toNat ∈ l then g c.toNat else 0
  | [], _ => by simp [sm]
  | a :: l, h => by
    rw [List.nodup_cons] at h
    have ih := sm_pick (g := g) (c := c) h.2
    simp only [sm]
    rw [ih]
    by_cases e : (a : Int) = c
    · have e2 : c.toNat = a := by omega
      rw [if_pos e, e2]
      rw [if_neg (fun z => h.1 z.2), if_pos ⟨by omega, List.mem_cons_self ..⟩]; omega
    · rw [if_neg e]
      by_cases z : 0 ≤ c ∧ c.toNat ∈ l
      · rw [if_pos z, if_pos ⟨z.1, List.mem_cons_of_mem _ z.2⟩]; omega
      · rw [if_neg z, if_neg]
        · rfl
        · rintro ⟨z1, z2⟩
          rcases List.mem_cons.mp z2 with z3 | z3
          · exact e (by omega)
          · exact z ⟨z1, z3⟩
theorem sm_single {h : Int → Int} {x : Int} : ∀ {K : List Int}, K.Nodup → x ∈ K → (sm K fun k => if x = k then h k else 0) = h x
  | [], _, hx => by cases hx
  | a :: K, nd, hx => by
    rw [List.nodup_cons] at nd
    simp only [sm]
    by_cases e : x = a
    · subst e
      rw [if_pos rfl]
      have : (sm K fun k => if x = k then h k else 0) = sm K fun _ => 0 := sm_congr fun k hk => by
        rw [if_neg]; intro z; subst z; exact nd.1 hk
      rw [this, sm_const]; simp
    · rw [if_neg e]
      rcases List.mem_cons.mp hx with z | z
      · exact absurd z e
      · rw [sm_single nd.2 z]; omega
theorem sm_count {h : Int → Int} {K : List Int} (nd : K.Nodup) : ∀ {xs : List Int}, (∀ x ∈ xs, x ∈ K) → (sm K fun k => h k * (xs.count k : Nat)) = sm xs h
  | [], _ => by
    have : (sm K fun k => h k * (([] : List Int).count k : Nat)) = sm K fun _ => 0 := sm_congr fun k _ => by simp
    rw [this, sm_const]; simp [sm]
  | x :: xs, hx => by
    have ih := sm_count (h := h) nd fun y hy => hx y (List.mem_cons_of_mem _ hy)
    have : (sm K fun k => h k * ((x :: xs).count k : Nat)) = sm K fun k => h k * (xs.count k : Nat) + if x = k then h k else 0 := sm_congr fun k _ => by
      rw [List.count_cons]
      by_cases e : x = k
      · subst e; simp [Int.mul_add]
      · simp [e]
    rw [this, sm_add, ih, sm_single nd (hx x (List.mem_cons_self ..))]
    simp only [sm]; omega
/-! ### the dict of counts: its keys -/
theorem getC_mem {q : Int × Nat} : ∀ {l : List (Int × Nat)}, (l.map (·.1)).Nodup → q ∈ l → getC l q.1 = q.2
  | [], _, h => by cases h
  | a :: l, nd, h => by
    rw [List.map_cons, List.nodup_cons] at nd
    unfold getC
    rw [List.find?_cons]
    by_cases e : a.1 = q.1
    · rcases List.mem_cons.mp h with z | z
      · subst z; simp
      · exact absurd (List.mem_map.mpr ⟨q, z, e.symm⟩) nd.1
    · simp only [e, decide_false]
      rcases List.mem_cons.mp h with z | z
      · subst z; exact absurd rfl e
      · exact getC_mem nd.2 z
theorem addC_keys (l : List (Int × Nat)) (k : Int) : (addC l k).map (·.1) = if k ∈ l.map (·.1) then l.map (·.1) else l.map (·.1) ++ [k] := by
  unfold addC
  have e : ((l.any fun q => decide (q.1 = k)) = true) ↔ k ∈ l.map (·.1) := by
    rw [List.any_eq_true, List.mem_map]
    exact ⟨fun ⟨q, h1, h2⟩ => ⟨q, h1, of_decide_eq_true h2⟩, fun ⟨q, h1, h2⟩ => ⟨q, h1, decide_eq_true h2⟩⟩
  by_cases c : (l.any fun q => decide (q.1 = k)) = true
  · rw [if_pos c, if_pos (e.mp c), List.map_map]
    apply List.map_congr_left
    intro q _
    simp only [Function.comp]
    split <;> rfl
  · rw [if_neg c, if_neg (fun z => c (e.mpr z)), List.map_append]; rfl
theorem addCs_keys : ∀ (xs : List Int) (l : List (Int × Nat)), (addCs l xs).map (·.1) = addAll (l.map (·.1)) xs
  | [], l => rfl
  | x :: xs, l => by
    show (addCs (addC l x) xs).map (·.1) = addAll (if x ∈ l.map (·.1) then l.map (·.1) else l.map (·.1) ++ [x]) xs
    rw [addCs_keys xs, addC_keys]
theorem CC_spec {xs : List Int} {q : Int × Nat} (h : q ∈ addCs [] xs) : q.2 = xs.count q.1 := by
  have nd : ((addCs [] xs).map (·.1)).Nodup := by rw [addCs_keys]; exact addAll_nodup _ _ List.nodup_nil
  rw [← getC_mem nd h, getC_adds]
  simp [getC]
theorem CC_keys {xs : List Int} {q : Int × Nat} (h : q ∈ addCs [] xs) : q.1 ∈ xs := by
  have : q.1 ∈ (addCs [] xs).map (·.1) := List.mem_map.mpr ⟨q, h, rfl⟩
  rw [addCs_keys, mem_addAll] at this
  simpa using this
theorem sm_CC {h : Int → Int} {xs : List Int} : (sm (addCs [] xs) fun q => h q.1 * (q.2 : Nat)) = sm xs h := by
  have e : (sm (addCs [] xs) fun q => h q.1 * (q.2 : Nat)) = sm (addCs [] xs) fun q => h q.1 * (xs.count q.1 : Nat) := sm_congr fun q hq => by rw [CC_spec hq]
  rw [e]
  have e2 : (sm (addCs [] xs) fun q => h q.1 * (xs.count q.1 : Nat)) = sm ((addCs [] xs).map (·.1)) fun k => h k * (xs.count k : Nat) := by rw [sm_map]
  rw [e2, addCs_keys]
  refine sm_count (addAll_nodup _ _ List.nodup_nil) fun x hx => ?_
  rw [mem_addAll]; exact .inr hx
/-! ### how many tuples -/
def W (n t : Nat) : Nat → Int → Int
  | 0, r => if r = 0 then 1 else 0
  | m + 1, r => sm (PL n t) fun x => W n t m ((r - x) % (n : Int))
theorem sm_nn {α : Type} {f : α → Int} : ∀ {l : List α}, (∀ a ∈ l, 0 ≤ f a) → 0 ≤ sm l f
  | [], _ => by simp [sm]
  | a :: l, h => by
    have := sm_nn fun b hb => h b (List.mem_cons_of_mem _ hb)
    have := h a (List.mem_cons_self ..)
    simp only [sm]; omega
theorem W_nn (n t : Nat) : ∀ (m : Nat) (r : Int), 0 ≤ W n t m r
  | 0, r => by unfold W; split <;> omega
  | m + 1, r => by
    unfold W
    exact sm_nn fun x _ => W_nn n t m _
/-- what one place adds -/
def acc (n : Nat) (a w : Int) : List (Int × Nat) → (Nat → Int) → Nat → Int
  | [], g => g
  | q :: l, g => acc n a w l fun r => if r = ((a + q.1) % (n : Int)).toNat then g ((a + q.1) % (n : Int)).toNat + w * (q.2 : Nat) else g r
theorem acc_eq {n : Nat} {a w : Int} (hn : 0 < n) : ∀ (l : List (Int × Nat)) (g : Nat → Int) (r : Nat), acc n a w l g r = g r + sm l fun q => if (r : Int) = (a + q.1) % (n : Int) then w * (q.2 : Nat) else 0
  | [], g, r => by simp [acc, sm]
  | q :: l, g, r => by
    show acc n a w l _ r = _
    rw [acc_eq hn l]
    simp only [sm]
    have := Int.emod_nonneg (a + q.1) (show (n : Int) ≠ 0 by omega)
    by_cases e : (r : Int) = (a + q.1) % (n : Int)
    · have e2 : r = ((a + q.1) % (n : Int)).toNat := by omega
      rw [if_pos e, if_pos e2, ← e2]; omega
    · have e2 : ¬ r = ((a + q.1) % (n : Int)).toNat := by omega
      rw [if_neg e, if_neg e2]; omega
def accA (n : Nat) (C : List (Int × Nat)) (f : Nat → Int) : List Nat → (Nat → Int) → Nat → Int
  | [], g => g
  | s :: l, g => accA n C f l (if 0 < f s then acc n s (f s) C g else g)
theorem accA_eq {n : Nat} {C : List (Int × Nat)} {f : Nat → Int} (hn : 0 < n) (h0 : ∀ s, 0 ≤ f s) : ∀ (l : List Nat) (g : Nat → Int) (r : Nat), accA n C f l g r = g r + sm l fun s => sm C fun q => if (r : Int) = ((s : Int) + q.1) % (n : Int) then f s * (q.2 : Nat) else 0
  | [], g, r => by simp [accA, sm]
  | s :: l, g, r => by
    show accA n C f l _ r = _
    rw [accA_eq hn h0 l]
    simp only [sm]
    by_cases e : 0 < f s
    · rw [if_pos e, acc_eq hn]; omega
    · rw [if_neg e]
      have z : f s = 0 := by have := h0 s; omega
      have : (sm C fun q => if (r : Int) = ((s : Int) + q.1) % (n : Int) then f s * (q.2 : Nat) else 0) = sm C fun _ => 0 := sm_congr fun q _ => by rw [z]; simp
      rw [this, sm_const]; omega
theorem shift_iff {n r a x : Int} (hn : 0 < n) (h0 : 0 ≤ r) (h1 : r < n) (a0 : 0 ≤ a) (a1 : a < n) : r = (a + x) % n ↔ a = (r - x) % n := by
  constructor
  · intro e
    rw [e, Int.emod_sub_emod, Int.add_sub_cancel, Int.emod_eq_of_lt a0 a1]
  · intro e
    rw [e, Int.emod_add_emod, Int.sub_add_cancel, Int.emod_eq_of_lt h0 h1]
/-- one more term -/
theorem W_step {n t m : Nat} (hn : 0 < n) {r : Nat} (hr : r < n) : accA n (addCs [] (PL n t)) (fun s => W n t m s) (List.range n) (fun _ => 0) r = W n t (m + 1) r := by
  rw [accA_eq hn fun s => W_nn n t m s, sm_swap]
  have : (sm (addCs [] (PL n t)) fun q => sm (List.range n) fun s => if (r : Int) = ((s : Int) + q.1) % (n : Int) then W n t m s * (q.2 : Nat) else 0) =
      sm (addCs [] (PL n t)) fun q => W n t m (((r : Int) - q.1) % (n : Int)) * (q.2 : Nat) := sm_congr fun q _ => by
    have c0 := Int.emod_nonneg ((r : Int) - q.1) (show (n : Int) ≠ 0 by omega)
    have c1 := Int.emod_lt_of_pos ((r : Int) - q.1) (show 0 < (n : Int) by omega)
    obtain ⟨c, hc⟩ : ∃ c, c = ((r : Int) - q.1) % (n : Int) := ⟨_, rfl⟩
    have : (sm (List.range n) fun s => if (r : Int) = ((s : Int) + q.1) % (n : Int) then W n t m s * (q.2 : Nat) else 0) = sm (List.range n) fun s => if (s : Int) = c then W n t m s * (q.2 : Nat) else 0 := sm_congr fun s hs => by
      have hs := List.mem_range.mp hs
      have := shift_iff (n := n) (r := r) (a := s) (x := q.1) (by omega) (by omega) (by omega) (by omega) (by omega)
      rw [← hc] at this
      by_cases e : (r : Int) = ((s : Int) + q.1) % (n : Int)
      · rw [if_pos e, if_pos (this.mp e)]
      · rw [if_neg e, if_neg (fun z => e (this.mpr z))]
    rw [this, sm_pick (g := fun s => W n t m s * (q.2 : Nat)) List.nodup_range]
    rw [← hc] at c0 c1 ⊢
    rw [if_pos ⟨c0, List.mem_range.mpr (by omega)⟩]
    have : ((c.toNat : Nat) : Int) = c := by omega
    rw [this]
  rw [this, sm_CC (h := fun x => W n t m (((r : Int) - x) % (n : Int)))]
  show 0 + _ = _
  rw [Int.zero_add]; rfl
end LW

end

section
set_option autoImplicit false
set_option autoImplicit false
namespace LW
open PySem PySem.Spec PyProof.Rows L2 DL NT
theorem cD_items (C : List (Int × Nat)) : (cD C).map itD = C.map fun q => D.tup [.int q.1, .int (q.2 : Nat)] := by
  unfold cD
  rw [List.map_map]
  apply List.map_congr_left
  intro q _
  rfl
section
variable {S : Store} {n : Nat} {a0 a1 a2 a3 a5 a7 a9 : Option Sl}
theorem wi_loop {c4 : Option Sl} {at' w : Int} (hn : 0 < n) : ∀ (C : List (Int × Nat)) (g : Nat → Int) (x6 x11 : Option Sl), (∀ q ∈ C, q.2 < 2 ^ 60) → ∃ y6 y11,
    forL (gT (gConss (gN 6) (gConss (gN 11) gNils))) (fb2_ways_of_sums fuel) (C.map fun q => D.tup [.int q.1, .int (q.2 : Nat)])
      [some (.fz (.int n)), a1, a2, a3, c4, a5, x6, a7, some (.own (.lst (FL n g))), some (.fz (.int at')), some (.fz (.int w)), x11] S =
    .nx [some (.fz (.int n)), a1, a2, a3, c4, a5, y6, a7, some (.own (.lst (FL n (acc n at' w C g)))), some (.fz (.int at')), some (.fz (.int w)), y11] S
  | [], g, x6, x11, _ => ⟨x6, x11, rfl⟩
  | q :: C, g, x6, x11, h => by
    have hq := h q (List.mem_cons_self ..)
    obtain ⟨y6, y11, ih⟩ := wi_loop hn C (fun r => if r = ((at' + q.1) % (n : Int)).toNat then g ((at' + q.1) % (n : Int)).toNat + w * (q.2 : Nat) else g r) (some (.fz (.int q.1))) (some (.fz (.int (q.2 : Nat)))) fun p hp => h p (List.mem_cons_of_mem _ hp)
    refine ⟨y6, y11, ?_⟩
    have c0 := Int.emod_nonneg (at' + q.1) (show (n : Int) ≠ 0 by omega)
    have c1 := Int.emod_lt_of_pos (at' + q.1) (show 0 < (n : Int) by omega)
    have md : ∀ x : Int, gMod (.int x) (.int n) = some (.int (x % n)) := fun x => o_mod (by omega)
    obtain ⟨c, hc⟩ : ∃ c, c = (at' + q.1) % (n : Int) := ⟨_, rfl⟩
    have mdc : gMod (.int (at' + q.1)) (.int n) = some (.int c) := by rw [md, hc]
    rw [← hc] at c0 c1 ih
    have ga := FL_at (f := g) c0 c1
    have gs := FL_set (n := n) (i := c.toNat) (v := g c.toNat + w * (q.2 : Nat)) (f := g)
    have ln := FL_len (n := n) (f := g)
    have ix := ixN_int c0 c1
    have ml : gMul (.int w) (.int (q.2 : Nat)) = some (.int (w * (q.2 : Nat))) := by
      show (if _ then _ else _) = _
      rw [if_pos (mulOk_r (by omega))]
    obtain ⟨L, hL⟩ : ∃ L, L = FL n g := ⟨_, rfl⟩
    rw [← hL] at ga gs ln ⊢
    rw [List.map_cons, for_nx (E1 := [some (.fz (.int n)), a1, a2, a3, c4, a5, some (.fz (.int q.1)), a7, some (.own (.lst L)), some (.fz (.int at')), some (.fz (.int w)), some (.fz (.int (q.2 : Nat)))])
      (E2 := [some (.fz (.int n)), a1, a2, a3, c4, a5, some (.fz (.int q.1)), a7, some (.own (.lst (L.set c.toNat (.int (g c.toNat + w * (q.2 : Nat)))))), some (.fz (.int at')), some (.fz (.int w)), some (.fz (.int (q.2 : Nat)))]) (S2 := S) rfl ?_]
    · rw [gs]
      have e : acc n at' w (q :: C) g = acc n at' w C (fun r => if r = c.toNat then g c.toNat + w * (q.2 : Nat) else g r) := by rw [hc]; rfl
      rw [e]
      exact ih
    · simp [fb2_ways_of_sums, e_SetIx, mdc, ga, ml, ln, ix]
theorem wa_loop {C : List (Int × Nat)} {f : Nat → Int} (hn : 0 < n) (hC : ∀ q ∈ C, q.2 < 2 ^ 60) : ∀ (l : List Nat) (g : Nat → Int) (c4 x6 x9 x10 x11 : Option Sl), (c4 = some (.own (.dct (cD C))) ∨ c4 = some (.fz (.dct (cD C)))) → ∃ d4 y6 y9 y10 y11,
    (d4 = some (.own (.dct (cD C))) ∨ d4 = some (.fz (.dct (cD C)))) ∧
    forL (gT (gConss (gN 9) (gConss (gN 10) gNils))) (fb3_ways_of_sums fuel) (l.map fun r : Nat => D.tup [.int r, .int (f r)])
      [some (.fz (.int n)), a1, a2, a3, c4, a5, x6, a7, some (.own (.lst (FL n g))), x9, x10, x11] S =
    .nx [some (.fz (.int n)), a1, a2, a3, d4, a5, y6, a7, some (.own (.lst (FL n (accA n C f l g)))), y9, y10, y11] S
  | [], g, c4, x6, x9, x10, x11, h4 => ⟨c4, x6, x9, x10, x11, h4, rfl⟩
  | s :: l, g, c4, x6, x9, x10, x11, h4 => by
    by_cases e : 0 < f s
    · obtain ⟨z6, z11, inn⟩ := wi_loop (S := S) (n := n) (a1 := a1) (a2 := a2) (a3 := a3) (a5 := a5) (a7 := a7) (c4 := some (.fz (.dct (cD C)))) (at' := s) (w := f s) hn C g x6 x11 hC
      obtain ⟨d4, y6, y9, y10, y11, hd, ih⟩ := wa_loop hn hC l (acc n s (f s) C g) (some (.fz (.dct (cD C)))) z6 (some (.fz (.int s))) (some (.fz (.int (f s)))) z11 (.inr rfl)
      refine ⟨d4, y6, y9, y10, y11, hd, ?_⟩
      have it := cD_items C
      have ea : accA n C f (s :: l) g = accA n C f l (acc n s (f s) C g) := by show accA n C f l _ = _; rw [if_pos e]
      rw [ea]
      obtain ⟨L, hL⟩ : ∃ L, L = FL n g := ⟨_, rfl⟩
      obtain ⟨L2, hL2⟩ : ∃ L, L = FL n (acc n s (f s) C g) := ⟨_, rfl⟩
      obtain ⟨K, hK⟩ : ∃ K, K = cD C := ⟨_, rfl⟩
      obtain ⟨I, hI⟩ : ∃ I, I = C.map fun q => D.tup [.int q.1, .int (q.2 : Nat)] := ⟨_, rfl⟩
      rw [← hL, ← hL2, ← hK, ← hI] at inn
      rw [← hK, ← hI] at it
      rw [← hK, ← hL2] at ih
      rw [← hK] at h4
      rw [← hL]
      rw [List.map_cons, for_nx (E1 := [some (.fz (.int n)), a1, a2, a3, c4, a5, x6, a7, some (.own (.lst L)), some (.fz (.int s)), some (.fz (.int (f s))), x11])
        (E2 := [some (.fz (.int n)), a1, a2, a3, some (.fz (.dct K)), a5, z6, a7, some (.own (.lst L2)), some (.fz (.int s)), some (.fz (.int (f s))), z11]) (S2 := S) rfl ?_]
      · exact ih
      · rcases h4 with rfl | rfl <;> simp [fb3_ways_of_sums, e, lockE, it, inn]
    · obtain ⟨d4, y6, y9, y10, y11, hd, ih⟩ := wa_loop hn hC l g c4 x6 (some (.fz (.int s))) (some (.fz (.int (f s)))) x11 h4
      refine ⟨d4, y6, y9, y10, y11, hd, ?_⟩
      have ea : accA n C f (s :: l) g = accA n C f l g := by show accA n C f l _ = _; rw [if_neg e]
      rw [ea]
      obtain ⟨L, hL⟩ : ∃ L, L = FL n g := ⟨_, rfl⟩
      rw [← hL] at ih ⊢
      rw [List.map_cons, for_nx (E1 := [some (.fz (.int n)), a1, a2, a3, c4, a5, x6, a7, some (.own (.lst L)), some (.fz (.int s)), some (.fz (.int (f s))), x11])
        (E2 := [some (.fz (.int n)), a1, a2, a3, c4, a5, x6, a7, some (.own (.lst L)), some (.fz (.int s)), some (.fz (.int (f s))), x11]) (S2 := S) rfl ?_]
      · exact ih
      · simp [fb3_ways_of_sums, e]
end
theorem wm_loop {S : Store} {n t : Nat} {a1 a2 a3 : Option Sl} (hn : 0 < n) (hn2 : n ≤ 500) : ∀ (k : Nat) (lo : Int) (m : Nat) (c4 x6 x7 x8 x9 x10 x11 : Option Sl), (c4 = some (.own (.dct (cD (addCs [] (PL n t))))) ∨ c4 = some (.fz (.dct (cD (addCs [] (PL n t)))))) → ∃ d4 y6 y7 y8 y9 y10 y11,
    forL (gN 7) (fb4_ways_of_sums fuel) ((rngI lo 1 k).map D.int)
      [some (.fz (.int n)), a1, a2, a3, c4, some (.fz (.lst (FL n fun s => W n t m s))), x6, x7, x8, x9, x10, x11] S =
    .nx [some (.fz (.int n)), a1, a2, a3, d4, some (.fz (.lst (FL n fun s => W n t (m + k) s))), y6, y7, y8, y9, y10, y11] S
  | 0, lo, m, c4, x6, x7, x8, x9, x10, x11, h4 => ⟨c4, x6, x7, x8, x9, x10, x11, by simp [rngI]⟩
  | k + 1, lo, m, c4, x6, x7, x8, x9, x10, x11, h4 => by
    have hC : ∀ q ∈ addCs [] (PL n t), q.2 < 2 ^ 60 := fun q hq => by
      have := CC_spec hq
      have := List.count_le_length (a := q.1) (l := PL n t)
      rw [PL_len] at this
      omega
    obtain ⟨d4, y6, y9, y10, y11, hd, wa⟩ := wa_loop (S := S) (n := n) (a1 := a1) (a2 := a2) (a3 := a3) (a5 := some (.fz (.lst (FL n fun s => W n t m s)))) (a7 := some (.fz (.int lo))) (f := fun s => W n t m s) hn hC (List.range n) (fun _ => 0) c4 x6 x9 x10 x11 h4
    have st : FL n (accA n (addCs [] (PL n t)) (fun s => W n t m s) (List.range n) (fun _ => 0)) = FL n fun s => W n t (m + 1) s := FL_ext fun i hi => W_step hn hi
    rw [st] at wa
    obtain ⟨e4, z6, z7, z8, z9, z10, z11, ih⟩ := wm_loop hn hn2 k (lo + 1) (m + 1) d4 y6 (some (.fz (.int lo))) (some (.fz (.lst (FL n fun s => W n t (m + 1) s)))) y9 y10 y11 hd
    refine ⟨e4, z6, z7, z8, z9, z10, z11, ?_⟩
    have em : m + 1 + k = m + (k + 1) := by omega
    rw [em] at ih
    have rp := FL_rep (n := n) (by omega)
    have en := enum_FL (n := n) (f := fun s => W n t m s)
    obtain ⟨Z, hZ⟩ : ∃ L, L = FL n fun _ => 0 := ⟨_, rfl⟩
    obtain ⟨A, hA⟩ : ∃ L, L = FL n fun s => W n t m s := ⟨_, rfl⟩
    obtain ⟨B, hB⟩ : ∃ L, L = FL n fun s => W n t (m + 1) s := ⟨_, rfl⟩
    obtain ⟨I, hI⟩ : ∃ I, I = (List.range n).map fun r : Nat => D.tup [.int r, .int (W n t m r)] := ⟨_, rfl⟩
    rw [← hZ] at rp
    try dsimp only at wa
    try dsimp only at en
    rw [← hA, ← hI] at en
    rw [← hI, ← hA, ← hZ] at wa
    rw [← hB] at wa ih
    rw [← hA]
    rw [rngI_succ, List.map_cons, for_nx (E1 := [some (.fz (.int n)), a1, a2, a3, c4, some (.fz (.lst A)), x6, some (.fz (.int lo)), x8, x9, x10, x11])
      (E2 := [some (.fz (.int n)), a1, a2, a3, d4, some (.fz (.lst B)), y6, some (.fz (.int lo)), some (.fz (.lst B)), y9, y10, y11]) (S2 := S) rfl ?_]
    · exact ih
    · simp [fb4_ways_of_sums, rp, en, wa, frz]
theorem ways_of_sums {S : Store} {n t j : Nat} (h1 : 1 ≤ n) (h2 : n ≤ 500) (t2 : t ≤ 12) (hj : j < 1000) : m_ways_of_sums [.int n, .int t, .int j] S = .ok (.lst (FL n fun s => W n t j s)) S := by
  have pi := fun S => powers_in (S := S) (n := n) (t := t) h1 h2 t2
  obtain ⟨y, co⟩ := co_loop (S := S) (a0 := some (.fz (.int n))) (a1 := some (.fz (.int t))) (a2 := some (.fz (.int j))) (a3 := some (.fz (.lst ((PL n t).map D.int)))) (a5 := some (.fz (.lst (FL n fun s => W n t 0 s)))) (a7 := none) (a8 := none) (a9 := none) (a10 := none) (a11 := none) (PL n t) [] none (by rw [PL_len]; simp; omega)
  obtain ⟨d4, y6, y7, y8, y9, y10, y11, wm⟩ := wm_loop (S := S) (n := n) (t := t) (a1 := some (.fz (.int t))) (a2 := some (.fz (.int j))) (a3 := some (.fz (.lst ((PL n t).map D.int)))) (by omega) h2 j 0 0 _ y none none none none none (.inl rfl)
  rw [Nat.zero_add] at wm
  have r := rng1_ok (j := j) (by omega) (by omega)
  have e : ((j : Int)).toNat = j := by omega
  rw [e] at r
  have mu : gMul (.lst [.int 0]) (.int ((n : Int) - 1)) = some (.lst (FL (n - 1) fun _ => 0)) := by
    have := FL_rep (n := n - 1) (by omega)
    have e : (((n - 1 : Nat)) : Int) = (n : Int) - 1 := by omega
    rw [e] at this
    exact this
  have ad : gAdd (.lst [.int 1]) (.lst (FL (n - 1) fun _ => 0)) = some (.lst (FL n fun s => W n t 0 s)) := by
    rw [o_addL (by rw [FL_len]; unfold sizeLine; simp; omega)]
    refine congrArg (fun l => some (D.lst l)) ?_
    obtain ⟨m, rfl⟩ : ∃ m, n = m + 1 := ⟨n - 1, by omega⟩
    unfold FL
    rw [Nat.add_sub_cancel, List.range_succ_eq_map, List.map_cons, List.map_map]
    have hd : D.int (W (m + 1) t 0 (0 : Nat)) = .int 1 := rfl
    rw [hd, List.singleton_append]
    refine congrArg (List.cons _) ?_
    apply List.map_congr_left
    intro a _
    simp only [Function.comp, W]
    rw [if_neg (by omega)]
  obtain ⟨P, hP⟩ : ∃ P, P = (PL n t).map D.int := ⟨_, rfl⟩
  obtain ⟨A, hA⟩ : ∃ L, L = FL n fun s => W n t 0 s := ⟨_, rfl⟩
  obtain ⟨B, hB⟩ : ∃ L, L = FL n fun s => W n t j s := ⟨_, rfl⟩
  obtain ⟨C, hC⟩ : ∃ L, L = FL (n - 1) fun _ => 0 := ⟨_, rfl⟩
  obtain ⟨R, hR⟩ : ∃ R, R = (rngI 0 1 j).map D.int := ⟨_, rfl⟩
  have c0 : cD [] = [] := rfl
  rw [c0] at co
  obtain ⟨K, hK⟩ : ∃ K, K = cD (addCs [] (PL n t)) := ⟨_, rfl⟩
  rw [← hP, ← hA, ← hK] at co
  rw [← hP, ← hA, ← hB, ← hK, ← hR] at wm
  rw [← hP] at pi
  rw [← hC] at mu ad
  rw [← hA] at ad
  rw [← hR] at r
  rw [← hB]
  simp [m_ways_of_sums, f_ways_of_sums, N_ways_of_sums, startE, fIt, pi, mu, ad, co, r, wm]
theorem count_power_sums {S : Store} {n t j : Nat} {x : Int} (h1 : 1 ≤ n) (h2 : n ≤ 500) (t1 : 2 ≤ t) (t2 : t ≤ 12) (j1 : 1 ≤ j) (j2 : j ≤ 12) (x0 : 0 ≤ x) (x1 : x < n) : m_count_power_sums [.int n, .int t, .int j, .int x] S = .ok (.int (W n t j x)) S := by
  have nf := fun S => need_few_ok (S := S) h1 h2 t1 t2
  have nw : ∀ S, m_need_whole [.int j, .int 1, .int 12] S = .ok .non S := fun S => need_whole_int (by omega) (by omega)
  have nr : ∀ S, m_need_rest [.int n, .int x] S = .ok .non S := fun S => need_rest_ok x0 x1
  have wo := fun S => ways_of_sums (S := S) (n := n) (t := t) h1 h2 t2 (show j < 1000 by omega)
  have ga := FL_at (f := fun s => W n t j s) x0 x1
  have e : ((x.toNat : Nat) : Int) = x := by omega
  simp only [e] at ga
  obtain ⟨B, hB⟩ : ∃ L, L = FL n fun s => W n t j s := ⟨_, rfl⟩
  rw [← hB] at wo ga
  simp [m_count_power_sums, f_count_power_sums, N_count_power_sums, startE, nf, nw, nr, wo, ga]
end LW

end

section
set_option autoImplicit false
set_option autoImplicit false
namespace LW
open PySem PySem.Spec PyProof.Rows L2 DL NT
/-! ### fewest terms: plain -/
def In (n t j : Nat) (x : Int) : Prop := x ∈ SS n t j
theorem In_succ {n t j : Nat} {x : Int} : In n t (j + 1) x ↔ ∃ o, In n t j o ∧ ∃ k, k < n ∧ x = (o + (pm k t n : Nat)) % (n : Int) := by
  unfold In
  rw [mem_SS_succ]
  constructor
  · rintro ⟨o, ho, m, hm, e⟩
    obtain ⟨k, hk, rfl⟩ := mem_PS.mp hm
    exact ⟨o, ho, k, hk, e⟩
  · rintro ⟨o, ho, k, hk, e⟩
    exact ⟨o, ho, _, mem_PS.mpr ⟨k, hk, rfl⟩, e⟩
theorem pm_zero {n t : Nat} (ht : 1 ≤ t) : pm 0 t n = 0 := by
  unfold pm
  rw [Nat.zero_pow (by omega), Nat.zero_mod]
theorem pm_one {n t : Nat} (hn : 2 ≤ n) : pm 1 t n = 1 := by
  unfold pm
  rw [Nat.one_pow, Nat.mod_eq_of_lt (by omega)]
theorem pm_lt {n t k : Nat} (hn : 1 ≤ n) : pm k t n < n := Nat.mod_lt _ (by omega)
theorem In_res {n t j : Nat} {x : Int} (hn : 1 ≤ n) (h : In n t j x) : 0 ≤ x ∧ x < n := SS_res hn h
theorem In_up {n t j : Nat} {x : Int} (hn : 1 ≤ n) (ht : 1 ≤ t) (h : In n t j x) : In n t (j + 1) x := by
  have := In_res hn h
  refine In_succ.mpr ⟨x, h, 0, by omega, ?_⟩
  rw [pm_zero ht, Int.emod_eq_of_lt (by omega) (by omega)]; simp
theorem In_le {n t : Nat} {x : Int} (hn : 1 ≤ n) (ht : 1 ≤ t) {i j : Nat} (hij : i ≤ j) (h : In n t i x) : In n t j x := by
  obtain ⟨k, rfl⟩ : ∃ k, j = i + k := ⟨j - i, by omega⟩
  clear hij
  induction k with
  | zero => exact h
  | succ k ih => exact In_up hn ht ih
theorem In_one {n t : Nat} {x : Int} (hn : 1 ≤ n) : In n t 1 x ↔ ∃ k, k < n ∧ x = (pm k t n : Nat) := by
  rw [In_succ]
  have h0 : ∀ k, ((0 : Int) + (pm k t n : Nat)) % (n : Int) = (pm k t n : Nat) := fun k => by
    have := pm_lt (t := t) (k := k) hn
    rw [Int.zero_add, Int.emod_eq_of_lt (by omega) (by omega)]
  constructor
  · rintro ⟨o, ho, k, hk, e⟩
    have : o = 0 := by
      have : o ∈ SS n t 0 := ho
      simpa [SS] using this
    subst this
    rw [h0] at e
    exact ⟨k, hk, e⟩
  · rintro ⟨k, hk, e⟩
    refine ⟨0, by show (0 : Int) ∈ SS n t 0; simp [SS], k, hk, ?_⟩
    rw [h0]; exact e
theorem In_all {n t j : Nat} (hn : 1 ≤ n) (ht : 1 ≤ t) (st : ∀ r : Nat, r + 1 < n → In n t j r → In n t j (r + 1 : Nat)) : ∀ r : Nat, r < n → In n t j r
  | 0, _ => In_le hn ht (Nat.zero_le j) (by show (0 : Int) ∈ SS n t 0; simp [SS])
  | r + 1, h => st r h (In_all hn ht st r (by omega))
/-- what is found: the fewest terms, and a last root -/
structure Few (n t : Nat) (g : Nat → Option (Nat × Nat)) : Prop where
  ex : ∀ r, r < n → ∃ a b, g r = some (a, b) ∧ 1 ≤ a ∧ (∀ i, 1 ≤ i → (In n t i r ↔ a ≤ i)) ∧ b < n ∧ (a = 1 → r = pm b t n) ∧ (1 < a → In n t (a - 1) (((r : Int) - (pm b t n : Nat)) % (n : Int)))
structure Lvl (n t j : Nat) (g : Nat → Option (Nat × Nat)) (line : List Nat) : Prop where
  rng : ∀ r, g r ≠ none → r < n
  a : ∀ r : Nat, r < n → (g r ≠ none ↔ In n t j r)
  b : ∀ (r : Nat) v, g r = some v → 1 ≤ v.1 ∧ v.1 ≤ j ∧ (∀ i, 1 ≤ i → In n t i r → v.1 ≤ i) ∧ In n t v.1 r ∧ v.2 < n ∧ (v.1 = 1 → r = pm v.2 t n) ∧ (1 < v.1 → In n t (v.1 - 1) (((r : Int) - (pm v.2 t n : Nat)) % (n : Int)))
  c : ∀ r, r ∈ line ↔ ∃ b, g r = some (j, b)
/-- how many are not found -/
def cN (n : Nat) (g : Nat → Option (Nat × Nat)) : Nat := ((List.range n).filter fun r => (g r).isNone).length
def upF (g : Nat → Option (Nat × Nat)) (i : Nat) (v : Nat × Nat) : Nat → Option (Nat × Nat) := fun r => if r = i then some v else g r
theorem filt_one {p q : Nat → Bool} {i : Nat} : ∀ {l : List Nat}, l.Nodup → i ∈ l → p i = true → q i = false → (∀ r, r ≠ i → q r = p r) → (l.filter q).length + 1 = (l.filter p).length
  | [], _, h, _, _, _ => by cases h
  | a :: l, nd, h, hp, hq, e => by
    rw [List.nodup_cons] at nd
    by_cases c : a = i
    · subst c
      rw [List.filter_cons_of_pos hp, List.filter_cons_of_neg (by simp [hq]), List.length_cons]
      have : l.filter q = l.filter p := List.filter_congr fun x hx => e x fun z => nd.1 (z ▸ hx)
      rw [this]
    · have hi : i ∈ l := by
        rcases List.mem_cons.mp h with z | z
        · exact absurd z.symm c
        · exact z
      have ih := filt_one nd.2 hi hp hq e
      have ea := e a c
      cases hpa : p a with
      | true =>
        have hqa : q a = true := by rw [ea, hpa]
        rw [List.filter_cons_of_pos hpa, List.filter_cons_of_pos hqa, List.length_cons, List.length_cons]; omega
      | false =>
        have hqa : q a = false := by rw [ea, hpa]
        rw [List.filter_cons_of_neg (p := p) (by simp [hpa]), List.filter_cons_of_neg (p := q) (by simp [hqa])]; exact ih
theorem cN_up {n i : Nat} {g : Nat → Option (Nat × Nat)} {v : Nat × Nat} (hi : i < n) (h : g i = none) : cN n (upF g i v) + 1 = cN n g := by
  refine filt_one (i := i) List.nodup_range (List.mem_range.mpr hi) (by rw [h]; rfl) (by simp [upF]) fun r hr => by simp [upF, hr]
theorem cN_le (n : Nat) (g : Nat → Option (Nat × Nat)) : cN n g ≤ n := by
  have := List.length_filter_le (fun r => (g r).isNone) (List.range n)
  simpa [cN] using this
structure Mid (n t j : Nat) (g0 g : Nat → Option (Nat × Nat)) (later : List Nat) : Prop where
  ext : ∀ r v, g0 r = some v → g r = some v
  new : ∀ (r : Nat) v, g0 r = none → g r = some v → v.1 = j + 1 ∧ v.2 < n ∧ r < n ∧ In n t j (((r : Int) - (pm v.2 t n : Nat)) % (n : Int))
  lat : ∀ r, r ∈ later ↔ g0 r = none ∧ g r ≠ none
  cnt : later.length + cN n g = cN n g0
theorem Mid.start {n t j : Nat} {g : Nat → Option (Nat × Nat)} : Mid n t j g g [] :=
  ⟨fun _ _ h => h, fun r v h1 h2 => (by rw [h1] at h2; cases h2), fun r => ⟨fun h => (by cases h), fun ⟨h1, h2⟩ => absurd h1 h2⟩, by simp⟩
/-- one more is found -/
theorem Mid.add {n t j : Nat} {g0 g : Nat → Option (Nat × Nat)} {later : List Nat} (m : Mid n t j g0 g later) (hn : 1 ≤ n) {h k : Nat} {i : Nat} (hh : h < n) (hk : k < n) (hi : (i : Int) = ((h : Int) + (pm k t n : Nat)) % (n : Int)) (hj : In n t j h) (z : g i = none) :
    Mid n t j g0 (upF g i (j + 1, k)) (later ++ [i]) := by
  have c1 := Int.emod_lt_of_pos ((h : Int) + (pm k t n : Nat)) (show 0 < (n : Int) by omega)
  have il : i < n := by omega
  have z0 : g0 i = none := by
    cases e : g0 i with
    | none => rfl
    | some v => rw [m.ext i v e] at z; cases z
  refine ⟨fun r v e => ?_, fun r v e1 e2 => ?_, fun r => ?_, ?_⟩
  · unfold upF
    by_cases c : r = i
    · subst c; rw [z0] at e; cases e
    · rw [if_neg c]; exact m.ext r v e
  · unfold upF at e2
    by_cases c : r = i
    · subst c
      rw [if_pos rfl] at e2
      cases e2
      refine ⟨rfl, hk, il, ?_⟩
      have := (shift_iff (n := n) (r := r) (a := h) (x := (pm k t n : Nat)) (by omega) (by omega) (by omega) (by omega) (by omega)).mp hi
      show In n t j (((r : Int) - (pm k t n : Nat)) % (n : Int))
      rw [← this]; exact hj
    · rw [if_neg c] at e2
      exact m.new r v e1 e2
  · rw [List.mem_append, List.mem_singleton, m.lat r]
    unfold upF
    by_cases c : r = i
    · subst c; simp [z0]
    · rw [if_neg c]; simp [c]
  · rw [List.length_append, List.length_singleton]
    have := cN_up (v := (j + 1, k)) il z
    have := m.cnt
    omega
/-- the next level -/
theorem Lvl.step {n t j : Nat} {g g' : Nat → Option (Nat × Nat)} {line later : List Nat} (l : Lvl n t j g line) (hn : 1 ≤ n) (ht : 1 ≤ t) (hj : 1 ≤ j) (m : Mid n t j g g' later)
    (comp : ∀ h ∈ line, ∀ k, k < n → g' (((h : Int) + (pm k t n : Nat)) % (n : Int)).toNat ≠ none) : Lvl n t (j + 1) g' later := by
  have old : ∀ r : Nat, r < n → g r ≠ none → g' r ≠ none := fun r _ h => by
    cases e : g r with
    | none => exact absurd e h
    | some v => rw [m.ext r v e]; simp
  have A : ∀ r : Nat, r < n → (g' r ≠ none ↔ In n t (j + 1) r) := fun r hr => by
    constructor
    · intro h
      cases e : g r with
      | some v => exact In_up hn ht ((l.a r hr).mp (by rw [e]; simp))
      | none =>
        cases e2 : g' r with
        | none => exact absurd e2 h
        | some v =>
          obtain ⟨_, h2, _, h4⟩ := m.new r v e e2
          refine In_succ.mpr ⟨_, h4, v.2, h2, ?_⟩
          rw [Int.emod_add_emod, Int.sub_add_cancel, Int.emod_eq_of_lt (by omega) (by omega)]
    · intro h
      obtain ⟨o, ho, k, hk, e⟩ := In_succ.mp h
      have o1 := In_res hn ho
      obtain ⟨o', rfl⟩ : ∃ o' : Nat, o = o' := ⟨o.toNat, by omega⟩
      have go := (l.a o' (by omega)).mpr ho
      cases eo : g o' with
      | none => exact absurd eo go
      | some v =>
        obtain ⟨b1, b2, b3, b4, _⟩ := l.b o' v eo
        by_cases c : v.1 = j
        · have := comp o' ((l.c o').mpr ⟨v.2, by rw [eo, ← c]⟩) k hk
          rw [← e] at this
          exact this
        · refine old r hr ((l.a r hr).mpr ?_)
          refine In_le hn ht (show v.1 + 1 ≤ j by omega) (In_succ.mpr ⟨_, b4, k, hk, e⟩)
  have R : ∀ r, g' r ≠ none → r < n := fun r h => by
    cases e : g r with
    | some v => exact l.rng r (by rw [e]; simp)
    | none =>
      cases e2 : g' r with
      | none => exact absurd e2 h
      | some v => exact (m.new r v e e2).2.2.1
  refine ⟨R, A, fun r v e2 => ?_, fun r => ?_⟩
  · cases e : g r with
    | some w =>
      have : w = v := by have := m.ext r w e; rw [e2] at this; cases this; rfl
      subst this
      obtain ⟨b1, b2, b3⟩ := l.b r w e
      exact ⟨b1, by omega, b3⟩
    | none =>
      obtain ⟨h1, h2, h3, h4⟩ := m.new r v e e2
      have nj : ¬ In n t j r := fun z => (l.a r h3).mpr z e
      have up := (A r h3).mp (by rw [e2]; simp)
      refine ⟨by omega, by omega, fun i hi z => ?_, by rw [h1]; exact up, h2, by omega, fun _ => ?_⟩
      · apply Classical.byContradiction
        intro w
        exact nj (In_le hn ht (by omega) z)
      · rw [h1, Nat.add_sub_cancel]; exact h4
  · rw [m.lat r]
    constructor
    · rintro ⟨h1, h2⟩
      cases e2 : g' r with
      | none => exact absurd e2 h2
      | some v => exact ⟨v.2, by rw [← (m.new r v h1 e2).1]⟩
    · rintro ⟨b, hb⟩
      refine ⟨?_, by rw [hb]; simp⟩
      cases e : g r with
      | none => rfl
      | some w =>
        exfalso
        have := m.ext r w e
        rw [hb] at this
        cases this
        have : j + 1 ≤ j := (l.b r _ e).2.1
        omega
theorem Lvl.fin {n t j : Nat} {g : Nat → Option (Nat × Nat)} (l : Lvl n t j g []) (hn : 1 ≤ n) (ht : 1 ≤ t) : Few n t g := by
  have all : ∀ r : Nat, r < n → In n t j r := In_all hn ht fun r hr h => by
    have := (l.a r (by omega)).mpr h
    cases e : g r with
    | none => exact absurd e this
    | some v =>
      obtain ⟨b1, b2, b3, b4, _⟩ := l.b r v e
      have c : v.1 ≠ j := fun c => by
        have := (l.c r).mpr ⟨v.2, by rw [e, ← c]⟩
        cases this
      refine In_le hn ht (show v.1 + 1 ≤ j by omega) (In_succ.mpr ⟨r, b4, 1, by omega, ?_⟩)
      rw [pm_one (by omega), Int.emod_eq_of_lt (by omega) (by omega)]; push_cast; rfl
  refine ⟨fun r hr => ?_⟩
  have := (l.a r hr).mpr (all r hr)
  cases e : g r with
  | none => exact absurd e this
  | some v =>
    obtain ⟨b1, b2, b3, b4, b5, b6, b7⟩ := l.b r v e
    exact ⟨v.1, v.2, rfl, b1, fun i hi => ⟨b3 i hi, fun h => In_le hn ht h b4⟩, b5, b6, b7⟩
end LW

end

section
set_option autoImplicit false
set_option autoImplicit false
namespace LW
open PySem PySem.Spec PyProof.Rows L2 DL NT
/-! ### the dict of first roots -/
def addL (l : List (Int × Nat)) (q : Int × Nat) : List (Int × Nat) := if q.1 ∈ l.map (·.1) then l else l ++ [q]
theorem lk_has {k : Int} : ∀ {l : List (Int × Nat)}, k ∈ l.map (·.1) → ∃ v, (k, v) ∈ l ∧ lkD (cD l) (.inl k) = some (.int (v : Nat))
  | [], h => by cases h
  | a :: l, h => by
    by_cases e : a.1 = k
    · refine ⟨a.2, by rw [← e]; exact List.mem_cons_self .., ?_⟩
      unfold lkD cD
      rw [List.map_cons, List.find?_cons]
      simp [e]
    · obtain ⟨v, h1, h2⟩ := lk_has (k := k) (l := l) (by
        rw [List.map_cons] at h
        rcases List.mem_cons.mp h with z | z
        · exact absurd z.symm e
        · exact z)
      refine ⟨v, List.mem_cons_of_mem _ h1, ?_⟩
      unfold lkD cD at h2 ⊢
      rw [List.map_cons, List.find?_cons]
      have : decide ((Sum.inl a.1 : Key) = Sum.inl k) = false := by simp [e]
      simp only [this]; exact h2
theorem lk_not {k : Int} : ∀ {l : List (Int × Nat)}, ¬ k ∈ l.map (·.1) → lkD (cD l) (.inl k) = none
  | [], _ => rfl
  | a :: l, h => by
    rw [List.map_cons, List.mem_cons, not_or] at h
    have ih := lk_not h.2
    unfold lkD cD at ih ⊢
    rw [List.map_cons, List.find?_cons]
    have : decide ((Sum.inl a.1 : Key) = Sum.inl k) = false := by simp [Ne.symm h.1]
    simp only [this]; exact ih
theorem pu_addL {l : List (Int × Nat)} {k : Int} {r : Nat} (nd : (l.map (·.1)).Nodup) : puD (cD l) (.inl k) ((lkD (cD l) (.inl k)).getD (.int (r : Nat))) = cD (addL l (k, r)) := by
  have an : ((cD l).any fun kv => decide (kv.1 = (.inl k : Key))) = decide (k ∈ l.map (·.1)) := by
    rw [any_cD]
    by_cases c : k ∈ l.map (·.1)
    · obtain ⟨q, h1, h2⟩ := List.mem_map.mp c
      rw [decide_eq_true c, List.any_eq_true]
      exact ⟨q, h1, decide_eq_true h2⟩
    · rw [decide_eq_false c, List.any_eq_false]
      intro q hq z
      exact c (List.mem_map.mpr ⟨q, hq, of_decide_eq_true z⟩)
  unfold puD addL
  rw [an]
  by_cases c : k ∈ l.map (·.1)
  · rw [if_pos (by simp [c]), if_pos c]
    obtain ⟨v, h1, h2⟩ := lk_has c
    rw [h2]
    unfold cD
    rw [List.map_map]
    apply List.map_congr_left
    intro q hq
    simp only [Function.comp]
    by_cases e : q.1 = k
    · have : q.2 = v := by
        have a := getC_mem nd hq
        have b := getC_mem nd h1
        rw [e] at a
        simp only at b
        omega
      simp [e, this]
    · have : ¬ (Sum.inl q.1 : Key) = .inl k := by simp [e]
      rw [if_neg this]
  · rw [if_neg (by simp [c]), if_neg c, lk_not c]
    unfold cD
    rw [List.map_append]; rfl
/-- what the dict holds behind k turns -/
structure LI (n t k : Nat) (l : List (Int × Nat)) : Prop where
  nd : (l.map (·.1)).Nodup
  ok : ∀ q ∈ l, q.2 < n ∧ q.1 = (pm q.2 t n : Nat)
  all : ∀ i, i < k → ((pm i t n : Nat) : Int) ∈ l.map (·.1)
  len : l.length ≤ k
theorem LI.add {n t k : Nat} {l : List (Int × Nat)} (h : LI n t k l) (hk : k < n) : LI n t (k + 1) (addL l ((pm k t n : Nat), k)) := by
  unfold addL
  by_cases c : ((pm k t n : Nat) : Int) ∈ l.map (·.1)
  · rw [if_pos c]
    refine ⟨h.nd, h.ok, fun i hi => ?_, by have := h.len; omega⟩
    by_cases e : i = k
    · rw [e]; exact c
    · exact h.all i (by omega)
  · rw [if_neg c]
    refine ⟨?_, fun q hq => ?_, fun i hi => ?_, by have := h.len; simp; omega⟩
    · rw [List.map_append, List.nodup_append]
      exact ⟨h.nd, by simp, fun a ha b hb e => c (by simp at hb; rw [hb] at e; rw [← e]; exact ha)⟩
    · rcases List.mem_append.mp hq with z | z
      · exact h.ok q z
      · rw [List.mem_singleton] at z; subst z; exact ⟨hk, rfl⟩
    · rw [List.map_append, List.mem_append]
      by_cases e : i = k
      · subst e; exact .inr (by simp)
      · exact .inl (h.all i (by omega))
theorem le_loop {S : Store} {n t : Nat} {a0 a1 a2 a4 a7 a8 a9 a10 : Option Sl} : ∀ (m k : Nat) (l : List (Int × Nat)) (x5 x6 : Option Sl), k + m ≤ n → n ≤ 500 → LI n t k l → ∃ l' y5 y6, LI n t (k + m) l' ∧
    forL (gT (gConss (gN 5) (gConss (gN 6) gNils))) (fb1_fewest_in fuel) ((List.range' k m).map fun r : Nat => D.tup [.int r, .int (pm r t n : Nat)]) [a0, a1, a2, some (.own (.dct (cD l))), a4, x5, x6, a7, a8, a9, a10] S =
      .nx [a0, a1, a2, some (.own (.dct (cD l'))), a4, y5, y6, a7, a8, a9, a10] S
  | 0, k, l, x5, x6, _, _, h => ⟨l, x5, x6, h, rfl⟩
  | m + 1, k, l, x5, x6, hk, hn, h => by
    obtain ⟨l', y5, y6, h', ih⟩ := le_loop (S := S) (n := n) (t := t) (a0 := a0) (a1 := a1) (a2 := a2) (a4 := a4) (a7 := a7) (a8 := a8) (a9 := a9) (a10 := a10) m (k + 1) (addL l ((pm k t n : Nat), k)) (some (.fz (.int k))) (some (.fz (.int (pm k t n : Nat)))) (by omega) hn (h.add (by omega))
    refine ⟨l', y5, y6, by have e : k + 1 + m = k + (m + 1) := by omega
                           rw [e] at h'; exact h', ?_⟩
    have pu := pu_addL (k := (pm k t n : Nat)) (r := k) h.nd
    have hl : (cD l).length < 1000000 := by unfold cD; rw [List.length_map]; have := h.len; omega
    obtain ⟨p, hp⟩ : ∃ p, p = pm k t n := ⟨_, rfl⟩
    rw [← hp] at pu ih
    rw [List.range'_succ, List.map_cons, ← hp, for_nx (E1 := [a0, a1, a2, some (.own (.dct (cD l))), a4, some (.fz (.int k)), some (.fz (.int p)), a7, a8, a9, a10])
      (E2 := [a0, a1, a2, some (.own (.dct (cD (addL l ((p : Nat), k))))), a4, some (.fz (.int k)), some (.fz (.int p)), a7, a8, a9, a10]) (S2 := S) rfl ?_]
    · exact ih
    · obtain ⟨L, hL⟩ : ∃ L, L = cD l := ⟨_, rfl⟩
      rw [← hL] at pu hl ⊢
      simp [fb1_fewest_in, e_DSet, keyD, hl, pu]
/-! ### the list of what is found -/
def oD : Option (Nat × Nat) → D
  | none => .non
  | some v => .tup [.int v.1, .int v.2]
def FN (n : Nat) (g : Nat → Option (Nat × Nat)) : List D := (List.range n).map fun r => oD (g r)
theorem FN_len {n : Nat} {g : Nat → Option (Nat × Nat)} : (FN n g).length = n := by simp [FN]
theorem FN_get {n i : Nat} {g : Nat → Option (Nat × Nat)} (h : i < n) : (FN n g)[i]? = some (oD (g i)) := by simp [FN, h]
theorem FN_at {n : Nat} {i : Int} {g : Nat → Option (Nat × Nat)} (h0 : 0 ≤ i) (h : i < n) : gIx (.lst (FN n g)) (.int i) = some (oD (g i.toNat)) := by
  show atI _ _ = _
  unfold atI
  rw [FN_len, ixN_int h0 h]
  exact FN_get (by omega)
theorem FN_set {n i : Nat} {v : Nat × Nat} {g : Nat → Option (Nat × Nat)} : (FN n g).set i (.tup [.int v.1, .int v.2]) = FN n (upF g i v) := by
  apply List.ext_getElem?
  intro j
  rw [List.getElem?_set]
  by_cases hj : j < n
  · rw [FN_get hj, FN_get hj, FN_len]
    unfold upF
    by_cases e : i = j
    · subst e; rw [if_pos rfl, if_pos hj, if_pos rfl]; rfl
    · rw [if_neg e, if_neg (fun z => e z.symm)]
  · have z : ∀ g, (FN n g)[j]? = none := fun g => List.getElem?_eq_none (by rw [FN_len]; omega)
    rw [z, z, FN_len]
    by_cases e : i = j
    · subst e; rw [if_pos rfl, if_neg hj]
    · rw [if_neg e]
theorem FN_rep {n : Nat} (h : n ≤ 1000000) : gRep (.lst [.non]) (.int n) = some (.lst (FN n fun _ => none)) := by
  have hl : [D.non].length = 1 := rfl
  have h1 : decide ((n : Int) < 2 ^ 63) = true := by rw [decide_eq_true_eq]; omega
  have h2 : decide (-(2 ^ 63) ≤ (n : Int)) = true := by rw [decide_eq_true_eq]; omega
  have h3 : decide ([D.non].length * (n : Int).toNat ≤ sizeLine) = true := by rw [decide_eq_true_eq, hl]; unfold sizeLine; omega
  unfold gRep
  simp only [h1, h2, h3, Bool.and_self, if_true]
  have e : (n : Int).toNat = n := by omega
  rw [e]
  refine congrArg (fun l => some (D.lst l)) ?_
  unfold FN
  clear e h h1 h2 h3 hl
  induction n with
  | zero => rfl
  | succ n ih => rw [List.replicate_succ', List.flatten_append, ih, List.range_succ, List.map_append]; rfl
/-- numbers as data -/
def lN (l : List Nat) : List D := (l.map fun k : Nat => (k : Int)).map D.int
theorem lN_cons {a : Nat} {l : List Nat} : lN (a :: l) = .int a :: lN l := rfl
theorem lN_app {l : List Nat} {a : Nat} : lN l ++ [.int a] = lN (l ++ [a]) := by simp [lN]
theorem lN_len {l : List Nat} : (lN l).length = l.length := by simp [lN]
theorem is_none : gIs .non .non = some (.bl true) := rfl
theorem is_pair {a b : D} : gIs (.tup [a, b]) .non = some (.bl false) := rfl
section
variable {S : Store} {n t j : Nat} {a1 a2 a7 : Option Sl} {C : List (Int × Nat)}
/-- from one place on -/
theorem fi_loop {g0 : Nat → Option (Nat × Nat)} {c3 : Option Sl} {h : Nat} (hn : 1 ≤ n) (hn2 : n ≤ 500) (hh : h < n) (hj : In n t j h) : ∀ (l : List (Int × Nat)) (g : Nat → Option (Nat × Nat)) (later : List Nat) (x5 x6 : Option Sl),
    (∀ q ∈ l, q.2 < n ∧ q.1 = (pm q.2 t n : Nat)) → Mid n t j g0 g later → ∃ g' later' y5 y6, Mid n t j g0 g' later' ∧ (∀ r v, g r = some v → g' r = some v) ∧ (∀ q ∈ l, g' (((h : Int) + q.1) % (n : Int)).toNat ≠ none) ∧
    forL (gT (gConss (gN 6) (gConss (gN 5) gNils))) (fb3_fewest_in fuel) (l.map fun q => D.tup [.int q.1, .int (q.2 : Nat)])
      [some (.fz (.int n)), a1, a2, c3, some (.own (.lst (FN n g))), x5, x6, a7, some (.fz (.int (j + 1 : Nat))), some (.own (.lst (lN later))), some (.fz (.int h))] S =
    .nx [some (.fz (.int n)), a1, a2, c3, some (.own (.lst (FN n g'))), y5, y6, a7, some (.fz (.int (j + 1 : Nat))), some (.own (.lst (lN later'))), some (.fz (.int h))] S
  | [], g, later, x5, x6, _, m => ⟨g, later, x5, x6, m, fun _ _ h => h, fun q hq => (by cases hq), rfl⟩
  | q :: l, g, later, x5, x6, hl, m => by
    obtain ⟨q2, q1⟩ := hl q (List.mem_cons_self ..)
    have c0 := Int.emod_nonneg ((h : Int) + q.1) (show (n : Int) ≠ 0 by omega)
    have c1 := Int.emod_lt_of_pos ((h : Int) + q.1) (show 0 < (n : Int) by omega)
    have md : ∀ x : Int, gMod (.int x) (.int n) = some (.int (x % n)) := fun x => o_mod (by omega)
    obtain ⟨c, hc⟩ : ∃ c, c = ((h : Int) + q.1) % (n : Int) := ⟨_, rfl⟩
    have mdc : gMod (.int ((h : Int) + q.1)) (.int n) = some (.int c) := by rw [md, hc]
    rw [← hc] at c0 c1
    have ga := FN_at (g := g) c0 c1
    have ix := ixN_int c0 c1
    cases z : g c.toNat with
    | some v =>
      obtain ⟨g', later', y5, y6, m', mo, co, ih⟩ := fi_loop hn hn2 hh hj l g later (some (.fz (.int (q.2 : Nat)))) (some (.fz (.int q.1))) (fun p hp => hl p (List.mem_cons_of_mem _ hp)) m
      refine ⟨g', later', y5, y6, m', mo, fun p hp => ?_, ?_⟩
      · rcases List.mem_cons.mp hp with e | e
        · rw [e, ← hc, mo _ _ z]; simp
        · exact co p e
      · rw [z] at ga
        have ga : gIx (.lst (FN n g)) (.int c) = some (.tup [.int v.1, .int v.2]) := ga
        obtain ⟨L, hL⟩ : ∃ L, L = FN n g := ⟨_, rfl⟩
        obtain ⟨M, hM⟩ : ∃ L, L = lN later := ⟨_, rfl⟩
        rw [← hL, ← hM] at ih ⊢
        rw [← hL] at ga
        rw [List.map_cons, for_nx (E1 := [some (.fz (.int n)), a1, a2, c3, some (.own (.lst L)), some (.fz (.int (q.2 : Nat))), some (.fz (.int q.1)), a7, some (.fz (.int (j + 1 : Nat))), some (.own (.lst M)), some (.fz (.int h))])
          (E2 := [some (.fz (.int n)), a1, a2, c3, some (.own (.lst L)), some (.fz (.int (q.2 : Nat))), some (.fz (.int q.1)), a7, some (.fz (.int (j + 1 : Nat))), some (.own (.lst M)), some (.fz (.int h))]) (S2 := S) rfl ?_]
        · exact ih
        · simp [fb3_fewest_in, mdc, ga, is_pair]
    | none =>
      have hi : (c.toNat : Int) = ((h : Int) + (pm q.2 t n : Nat)) % (n : Int) := by rw [← q1, ← hc]; omega
      have m1 := m.add hn hh q2 hi hj z
      obtain ⟨g', later', y5, y6, m', mo, co, ih⟩ := fi_loop hn hn2 hh hj l _ _ (some (.fz (.int (q.2 : Nat)))) (some (.fz (.int q.1))) (fun p hp => hl p (List.mem_cons_of_mem _ hp)) m1
      refine ⟨g', later', y5, y6, m', fun r v e => ?_, fun p hp => ?_, ?_⟩
      · refine mo r v ?_
        unfold upF
        by_cases w : r = c.toNat
        · subst w; rw [z] at e; cases e
        · rw [if_neg w]; exact e
      · rcases List.mem_cons.mp hp with e | e
        · rw [e, ← hc, mo c.toNat (j + 1, q.2) (by simp [upF])]; simp
        · exact co p e
      · rw [z] at ga
        have ga : gIx (.lst (FN n g)) (.int c) = some .non := ga
        have gs := FN_set (n := n) (i := c.toNat) (v := (j + 1, q.2)) (g := g)
        have ln := FN_len (n := n) (g := g)
        have la := lN_app (l := later) (a := c.toNat)
        have ec : ((c.toNat : Nat) : Int) = c := by omega
        rw [ec] at la
        have ll : (lN later).length < 1000000 := by
          rw [lN_len]
          have := m.cnt
          have := cN_le n g0
          omega
        obtain ⟨L, hL⟩ : ∃ L, L = FN n g := ⟨_, rfl⟩
        obtain ⟨L2, hL2⟩ : ∃ L, L = FN n (upF g c.toNat (j + 1, q.2)) := ⟨_, rfl⟩
        obtain ⟨M, hM⟩ : ∃ L, L = lN later := ⟨_, rfl⟩
        obtain ⟨M2, hM2⟩ : ∃ L, L = lN (later ++ [c.toNat]) := ⟨_, rfl⟩
        rw [← hL2, ← hM2] at ih
        rw [← hL, ← hM]
        rw [← hL] at ga ln gs
        rw [← hL2] at gs
        rw [← hM, ← hM2] at la
        rw [← hM] at ll
        have gs : L.set c.toNat (.tup [.int ((j : Int) + 1), .int (q.2 : Nat)]) = L2 := gs
        rw [List.map_cons, for_nx (E1 := [some (.fz (.int n)), a1, a2, c3, some (.own (.lst L)), some (.fz (.int (q.2 : Nat))), some (.fz (.int q.1)), a7, some (.fz (.int (j + 1 : Nat))), some (.own (.lst M)), some (.fz (.int h))])
          (E2 := [some (.fz (.int n)), a1, a2, c3, some (.own (.lst L2)), some (.fz (.int (q.2 : Nat))), some (.fz (.int q.1)), a7, some (.fz (.int (j + 1 : Nat))), some (.own (.lst M2)), some (.fz (.int h))]) (S2 := S) rfl ?_]
        · exact ih
        · simp [fb3_fewest_in, mdc, ga, is_none, e_SetIx, ln, ix, gs, e_App, ll, la]
theorem fl_loop {g0 : Nat → Option (Nat × Nat)} (hn : 1 ≤ n) (hn2 : n ≤ 500) (hC : LI n t n C) : ∀ (line : List Nat) (g : Nat → Option (Nat × Nat)) (later : List Nat) (x5 x6 x10 : Option Sl),
    (∀ h ∈ line, h < n ∧ In n t j h) → Mid n t j g0 g later → ∃ g' later' y5 y6 y10, Mid n t j g0 g' later' ∧ (∀ r v, g r = some v → g' r = some v) ∧ (∀ h ∈ line, ∀ q ∈ C, g' (((h : Int) + q.1) % (n : Int)).toNat ≠ none) ∧
    forL (gN 10) (fb4_fewest_in fuel) (lN line)
      [some (.fz (.int n)), a1, a2, some (.fz (.dct (cD C))), some (.own (.lst (FN n g))), x5, x6, a7, some (.fz (.int (j + 1 : Nat))), some (.own (.lst (lN later))), x10] S =
    .nx [some (.fz (.int n)), a1, a2, some (.fz (.dct (cD C))), some (.own (.lst (FN n g'))), y5, y6, a7, some (.fz (.int (j + 1 : Nat))), some (.own (.lst (lN later'))), y10] S
  | [], g, later, x5, x6, x10, _, m => ⟨g, later, x5, x6, x10, m, fun _ _ h => h, fun q hq => (by cases hq), rfl⟩
  | h :: line, g, later, x5, x6, x10, hl, m => by
    obtain ⟨hh, hj⟩ := hl h (List.mem_cons_self ..)
    obtain ⟨g1, later1, z5, z6, m1, mo1, co1, inn⟩ := fi_loop (S := S) (a1 := a1) (a2 := a2) (a7 := a7) (c3 := some (.fz (.dct (cD C)))) hn hn2 hh hj C g later x5 x6 hC.ok m
    obtain ⟨g', later', y5, y6, y10, m', mo, co, ih⟩ := fl_loop hn hn2 hC line g1 later1 z5 z6 (some (.fz (.int h))) (fun p hp => hl p (List.mem_cons_of_mem _ hp)) m1
    refine ⟨g', later', y5, y6, y10, m', fun r v e => mo r v (mo1 r v e), fun p hp q hq => ?_, ?_⟩
    · rcases List.mem_cons.mp hp with e | e
      · subst e
        cases w : g1 (((p : Int) + q.1) % (n : Int)).toNat with
        | none => exact absurd w (co1 q hq)
        | some v => rw [mo _ _ w]; simp
      · exact co p e q hq
    · have it := cD_items C
      obtain ⟨L, hL⟩ : ∃ L, L = FN n g := ⟨_, rfl⟩
      obtain ⟨L1, hL1⟩ : ∃ L, L = FN n g1 := ⟨_, rfl⟩
      obtain ⟨M, hM⟩ : ∃ L, L = lN later := ⟨_, rfl⟩
      obtain ⟨M1, hM1⟩ : ∃ L, L = lN later1 := ⟨_, rfl⟩
      obtain ⟨K, hK⟩ : ∃ K, K = cD C := ⟨_, rfl⟩
      obtain ⟨I, hI⟩ : ∃ I, I = C.map fun q => D.tup [.int q.1, .int (q.2 : Nat)] := ⟨_, rfl⟩
      rw [← hL, ← hL1, ← hM, ← hM1, ← hK, ← hI] at inn
      rw [← hK, ← hI] at it
      rw [← hK, ← hL1, ← hM1] at ih
      rw [← hL, ← hM, ← hK]
      rw [lN_cons, for_nx (E1 := [some (.fz (.int n)), a1, a2, some (.fz (.dct K)), some (.own (.lst L)), x5, x6, a7, some (.fz (.int (j + 1 : Nat))), some (.own (.lst M)), some (.fz (.int h))])
        (E2 := [some (.fz (.int n)), a1, a2, some (.fz (.dct K)), some (.own (.lst L1)), z5, z6, a7, some (.fz (.int (j + 1 : Nat))), some (.own (.lst M1)), some (.fz (.int h))]) (S2 := S) rfl ?_]
      · exact ih
      · obtain ⟨J, hJ⟩ : ∃ J : Int, J = ((j + 1 : Nat) : Int) := ⟨_, rfl⟩
        rw [← hJ] at inn ⊢
        simp [fb4_fewest_in, lockE, it, inn]
end
end LW

end

section
set_option autoImplicit false
set_option autoImplicit false
namespace LW
open PySem PySem.Spec PyProof.Rows L2 DL NT
structure Fi (n t : Nat) (g : Nat → Option (Nat × Nat)) (line : List Nat) : Prop where
  a : ∀ r v, g r = some v → v.1 = 1 ∧ v.2 < n ∧ r < n ∧ r = pm v.2 t n
  c : ∀ r, r ∈ line ↔ g r ≠ none
theorem Fi.lvl {n t : Nat} {g : Nat → Option (Nat × Nat)} {line : List Nat} (f : Fi n t g line) (hn : 1 ≤ n) (ht : 1 ≤ t) (all : ∀ k, k < n → g (pm k t n) ≠ none) : Lvl n t 1 g line := by
  have A : ∀ r : Nat, r < n → (g r ≠ none ↔ In n t 1 r) := fun r hr => by
    rw [In_one hn]
    constructor
    · intro h
      cases e : g r with
      | none => exact absurd e h
      | some v =>
        obtain ⟨_, h2, _, h4⟩ := f.a r v e
        exact ⟨v.2, h2, by rw [h4]⟩
    · rintro ⟨k, hk, e⟩
      have : r = pm k t n := by omega
      rw [this]; exact all k hk
  refine ⟨fun r h => ?_, A, fun r v e => ?_, fun r => ?_⟩
  · cases e : g r with
    | none => exact absurd e h
    | some v => exact (f.a r v e).2.2.1
  · obtain ⟨h1, h2, h3, h4⟩ := f.a r v e
    refine ⟨by omega, by omega, fun i hi _ => by omega, ?_, h2, fun _ => h4, by omega⟩
    rw [h1]; exact (A r h3).mp (by rw [e]; simp)
  · rw [f.c r]
    constructor
    · intro h
      cases e : g r with
      | none => exact absurd e h
      | some v => exact ⟨v.2, by rw [← (f.a r v e).1]⟩
    · rintro ⟨b, hb⟩; rw [hb]; simp
theorem ff_loop {S : Store} {n t : Nat} {a1 a2 c3 a8 a9 a10 : Option Sl} (hn : 1 ≤ n) : ∀ (l : List (Int × Nat)) (g : Nat → Option (Nat × Nat)) (line : List Nat) (x5 x6 : Option Sl),
    (∀ q ∈ l, q.2 < n ∧ q.1 = (pm q.2 t n : Nat)) → line.length + l.length ≤ 500 → Fi n t g line → ∃ g' line' y5 y6, Fi n t g' line' ∧ (∀ r, g r ≠ none → g' r ≠ none) ∧ (∀ q ∈ l, g' q.1.toNat ≠ none) ∧
    forL (gT (gConss (gN 6) (gConss (gN 5) gNils))) (fb2_fewest_in fuel) (l.map fun q => D.tup [.int q.1, .int (q.2 : Nat)])
      [some (.fz (.int n)), a1, a2, c3, some (.own (.lst (FN n g))), x5, x6, some (.own (.lst (lN line))), a8, a9, a10] S =
    .nx [some (.fz (.int n)), a1, a2, c3, some (.own (.lst (FN n g'))), y5, y6, some (.own (.lst (lN line'))), a8, a9, a10] S
  | [], g, line, x5, x6, _, _, f => ⟨g, line, x5, x6, f, fun _ h => h, fun q hq => (by cases hq), rfl⟩
  | q :: l, g, line, x5, x6, hl, hlen, f => by
    obtain ⟨q2, q1⟩ := hl q (List.mem_cons_self ..)
    have pl := pm_lt (t := t) (k := q.2) hn
    obtain ⟨c, hc⟩ : ∃ c, c = pm q.2 t n := ⟨_, rfl⟩
    rw [← hc] at pl q1
    have f1 : Fi n t (upF g c (1, q.2)) (line ++ [c]) := by
      refine ⟨fun r v e => ?_, fun r => ?_⟩
      · unfold upF at e
        by_cases z : r = c
        · rw [if_pos z] at e; cases e; exact ⟨rfl, q2, by omega, by rw [z, hc]⟩
        · rw [if_neg z] at e; exact f.a r v e
      · rw [List.mem_append, List.mem_singleton, f.c r]
        unfold upF
        by_cases z : r = c
        · simp [z]
        · rw [if_neg z]; simp [z]
    have hlen2 : (line ++ [c]).length + l.length ≤ 500 := by
      simp only [List.length_append, List.length_cons, List.length_nil] at hlen ⊢; omega
    obtain ⟨g', line', y5, y6, f', mo, co, ih⟩ := ff_loop (S := S) (t := t) (a1 := a1) (a2 := a2) (c3 := c3) (a8 := a8) (a9 := a9) (a10 := a10) hn l _ _ (some (.fz (.int (q.2 : Nat)))) (some (.fz (.int q.1))) (fun p hp => hl p (List.mem_cons_of_mem _ hp)) hlen2 f1
    refine ⟨g', line', y5, y6, f', fun r e => mo r ?_, fun p hp => ?_, ?_⟩
    · unfold upF
      by_cases z : r = c
      · rw [if_pos z]; simp
      · rw [if_neg z]; exact e
    · rcases List.mem_cons.mp hp with e | e
      · subst e
        refine mo _ ?_
        have : p.1.toNat = c := by omega
        rw [this]; simp [upF]
      · exact co p e
    · have gs := FN_set (n := n) (i := c) (v := (1, q.2)) (g := g)
      have gs : (FN n g).set c (.tup [.int 1, .int (q.2 : Nat)]) = FN n (upF g c (1, q.2)) := gs
      have ln := FN_len (n := n) (g := g)
      have la := lN_app (l := line) (a := c)
      have ix := ixN_nat pl
      have ll : (lN line).length < 1000000 := by rw [lN_len]; omega
      obtain ⟨L, hL⟩ : ∃ L, L = FN n g := ⟨_, rfl⟩
      obtain ⟨L2, hL2⟩ : ∃ L, L = FN n (upF g c (1, q.2)) := ⟨_, rfl⟩
      obtain ⟨M, hM⟩ : ∃ L, L = lN line := ⟨_, rfl⟩
      obtain ⟨M2, hM2⟩ : ∃ L, L = lN (line ++ [c]) := ⟨_, rfl⟩
      rw [← hL2, ← hM2] at ih
      rw [← hL, ← hM]
      rw [← hL] at ln gs
      rw [← hL2] at gs
      rw [← hM, ← hM2] at la
      rw [← hM] at ll
      rw [q1] at ih
      rw [List.map_cons, q1, for_nx (E1 := [some (.fz (.int n)), a1, a2, c3, some (.own (.lst L)), some (.fz (.int (q.2 : Nat))), some (.fz (.int c)), some (.own (.lst M)), a8, a9, a10])
        (E2 := [some (.fz (.int n)), a1, a2, c3, some (.own (.lst L2)), some (.fz (.int (q.2 : Nat))), some (.fz (.int c)), some (.own (.lst M2)), a8, a9, a10]) (S2 := S) rfl ?_]
      · exact ih
      · simp [fb2_fewest_in, e_SetIx, ln, ix, gs, e_App, ll, la]
theorem lN_nil {l : List Nat} : (l.map fun k : Nat => (k : Int)) = [] ↔ l = [] := by simp
theorem fewest_in {S : Store} {n t : Nat} (h1 : 1 ≤ n) (h2 : n ≤ 500) (t1 : 1 ≤ t) (t2 : t ≤ 12) : ∃ g, Few n t g ∧ m_fewest_in [.int n, .int t] S = .ok (.lst (FN n g)) S := by
  have pi := fun S => powers_in (S := S) (n := n) (t := t) h1 h2 t2
  have en : enum? [.lst ((PL n t).map D.int)] = some ((List.range' 0 n).map fun r : Nat => D.tup [.int r, .int (pm r t n : Nat)]) := by
    have := enum_FL (n := n) (f := fun k => (pm k t n : Nat))
    have e : (PL n t).map D.int = FL n fun k => (pm k t n : Nat) := by unfold PL FL; rw [List.map_map]; rfl
    rw [e, this, List.range_eq_range']
  have rp := FN_rep (n := n) (by omega)
  have l0 : LI n t 0 [] := ⟨by simp, fun q hq => (by cases hq), fun i hi => by omega, by simp⟩
  obtain ⟨C, y5, y6, hC, le⟩ := le_loop (S := S) (a0 := some (.fz (.int n))) (a1 := some (.fz (.int t))) (a2 := some (.fz (.lst ((PL n t).map D.int)))) (a4 := some (.own (.lst (FN n fun _ => none)))) (a7 := none) (a8 := none) (a9 := none) (a10 := none) n 0 [] none none (by omega) h2 l0
  rw [Nat.zero_add] at hC
  have f0 : Fi n t (fun _ => none) [] := ⟨fun r v e => (by cases e), fun r => by simp⟩
  obtain ⟨g1, line1, z5, z6, f1, _, co1, ff⟩ := ff_loop (S := S) (a1 := some (.fz (.int t))) (a2 := some (.fz (.lst ((PL n t).map D.int)))) (c3 := some (.fz (.dct (cD C)))) (a8 := some (.fz (.int 1))) (a9 := none) (a10 := none) h1 C (fun _ => none) [] y5 y6 hC.ok (by have := hC.len; simp; omega) f0
  have lv1 : Lvl n t 1 g1 line1 := f1.lvl h1 t1 fun k hk => by
    obtain ⟨q, h1, h2⟩ := List.mem_map.mp (hC.all k hk)
    have := co1 q h1
    rw [h2] at this
    exact this
  have it := cD_items C
  obtain ⟨P, hP⟩ : ∃ P, P = (PL n t).map D.int := ⟨_, rfl⟩
  obtain ⟨K, hK⟩ : ∃ K, K = cD C := ⟨_, rfl⟩
  have key := while_rule (c := wc1_fewest_in fuel) (b := wb1_fewest_in fuel)
    (Q := fun E S' => S' = S ∧ ∃ g x5 x6 x7 x8 x9 x10, E = [some (.fz (.int n)), some (.fz (.int t)), some (.fz (.lst P)), some (.fz (.dct K)), some (.own (.lst (FN n g))), x5, x6, x7, x8, x9, x10] ∧ Few n t g)
    (fun m E S' => S' = S ∧ ∃ (j : Nat) (g : Nat → Option (Nat × Nat)) (line : List Nat) (x5 x6 x9 x10 : Option Sl), E = [some (.fz (.int n)), some (.fz (.int t)), some (.fz (.lst P)), some (.fz (.dct K)), some (.own (.lst (FN n g))), x5, x6, some (.own (.lst (lN line))), some (.fz (.int j)), x9, x10] ∧ 1 ≤ j ∧ Lvl n t j g line ∧ m = cN n g + if line = [] then 0 else 1)
    (by
      rintro m E S' ⟨rfl, j, g, line, x5, x6, x9, x10, rfl, hj, lv, hm⟩
      have nn := ne_nil (ns := line.map fun k : Nat => (k : Int))
      have nn : gNe (.lst (lN line)) (.lst []) = _ := nn
      by_cases c : line = []
      · subst c
        refine .inl ⟨S', ?_, rfl, g, x5, x6, _, _, x9, x10, rfl, lv.fin h1 t1⟩
        have e : lN [] = [] := rfl
        rw [e] at nn ⊢
        simp [wc1_fewest_in, nn]
      · obtain ⟨g', later, y5, y6, y10, m', mo, co, fl⟩ := fl_loop (S := S') (n := n) (t := t) (j := j) (a1 := some (.fz (.int t))) (a2 := some (.fz (.lst P))) (a7 := some (.fz (.lst (lN line)))) h1 h2 hC line g [] x5 x6 x10
          (fun h hh => by
            obtain ⟨b, hb⟩ := (lv.c h).mp hh
            have hr := lv.rng h (by rw [hb]; simp)
            exact ⟨hr, (lv.a h hr).mp (by rw [hb]; simp)⟩) Mid.start
        have lv' := lv.step h1 t1 hj m' fun h hh k hk => by
          obtain ⟨q, q1, q2⟩ := List.mem_map.mp (hC.all k hk)
          have := co h hh q q1
          rw [q2] at this
          exact this
        have e0 : lN [] = [] := rfl
        rw [← hK, e0] at fl
        have cnt := m'.cnt
        obtain ⟨J, hJ⟩ : ∃ J : Int, J = ((j + 1 : Nat) : Int) := ⟨_, rfl⟩
        have eJ : (j : Int) + 1 = J := by rw [hJ]; rfl
        refine .inr ⟨S', [some (.fz (.int n)), some (.fz (.int t)), some (.fz (.lst P)), some (.fz (.dct K)), some (.own (.lst (FN n g'))), y5, y6, some (.own (.lst (lN later))), some (.fz (.int (j + 1 : Nat))), none, y10], S', _, ?_, ?_, ?_, rfl, j + 1, g', later, y5, y6, none, y10, rfl, by omega, lv', rfl⟩
        · have c2 : ¬ (line.map fun k : Nat => (k : Int)) = [] := fun z => c (lN_nil.mp z)
          obtain ⟨M, hM⟩ : ∃ L, L = lN line := ⟨_, rfl⟩
          rw [← hM] at nn ⊢
          simp [wc1_fewest_in, nn, c]
        · rw [← hJ] at fl ⊢
          obtain ⟨M, hM⟩ : ∃ L, L = lN line := ⟨_, rfl⟩
          rw [← hM] at fl ⊢
          obtain ⟨L, hL⟩ : ∃ L, L = FN n g := ⟨_, rfl⟩
          rw [← hL] at fl ⊢
          simp [wb1_fewest_in, eJ, frz, fIt, fl, e_Move]
        · rw [hm, if_neg c]
          by_cases z : later = []
          · subst z; rw [if_pos rfl]; simp at cnt; omega
          · rw [if_neg z]
            have : 0 < later.length := List.length_pos_iff.mpr z
            omega)
    _ fuel [some (.fz (.int n)), some (.fz (.int t)), some (.fz (.lst P)), some (.fz (.dct K)), some (.own (.lst (FN n g1))), z5, z6, some (.own (.lst (lN line1))), some (.fz (.int 1)), none, none] S
    (by
      have := cN_le n g1
      have : (if line1 = [] then 0 else 1) ≤ 1 := by split <;> omega
      have : 2000 < fuel := by unfold fuel; decide
      exact Nat.lt_of_le_of_lt (show _ ≤ 501 by omega) (by omega))
    ⟨rfl, 1, g1, line1, z5, z6, none, none, rfl, by omega, lv1, rfl⟩
  obtain ⟨E', S', w, rfl, g, w5, w6, w7, w8, w9, w10, rfl, few⟩ := key
  refine ⟨g, few, ?_⟩
  have e0 : lN [] = [] := rfl
  have c0 : cD [] = [] := rfl
  rw [c0, ← hP] at le
  rw [← hP] at en pi ff
  rw [← hK] at le ff it
  rw [e0] at ff
  obtain ⟨I, hI⟩ : ∃ I, I = C.map fun q => D.tup [.int q.1, .int (q.2 : Nat)] := ⟨_, rfl⟩
  rw [← hI] at it ff
  obtain ⟨R, hR⟩ : ∃ I, I = (List.range' 0 n).map fun r : Nat => D.tup [.int r, .int (pm r t n : Nat)] := ⟨_, rfl⟩
  rw [← hR] at en le
  obtain ⟨Z, hZ⟩ : ∃ I, I = FN n fun _ => none := ⟨_, rfl⟩
  rw [← hZ] at rp le ff
  obtain ⟨L, hL⟩ : ∃ I, I = FN n g := ⟨_, rfl⟩
  rw [← hL] at w ⊢
  obtain ⟨L1, hL1⟩ : ∃ I, I = FN n g1 := ⟨_, rfl⟩
  obtain ⟨M1, hM1⟩ : ∃ I, I = lN line1 := ⟨_, rfl⟩
  rw [← hL1, ← hM1] at w ff
  simp [m_fewest_in, f_fewest_in, N_fewest_in, startE, pi, rp, en, le, lockE, it, ff, w, frz]
end LW

end

section
set_option autoImplicit false
set_option autoImplicit false
namespace LW
open PySem PySem.Spec PyProof.Rows L2 DL NT
theorem In_self {n t : Nat} (hn : 1 ≤ n) : ∀ r : Nat, 1 ≤ r → r < n → In n t r r
  | 0, h, _ => by omega
  | 1, _, h => (In_one hn).mpr ⟨1, h, by rw [pm_one (by omega)]⟩
  | r + 2, _, h => by
    refine In_succ.mpr ⟨_, In_self hn (r + 1) (by omega) (by omega), 1, by omega, ?_⟩
    rw [pm_one (by omega), Int.emod_eq_of_lt (by omega) (by omega)]; push_cast; rfl
theorem In_n {n t : Nat} (hn : 1 ≤ n) (ht : 1 ≤ t) (r : Nat) (hr : r < n) : In n t n r := by
  by_cases c : r = 0
  · subst c
    exact In_le hn ht (Nat.zero_le n) (by show (0 : Int) ∈ SS n t 0; simp [SS])
  · exact In_le hn ht (by omega) (In_self hn r (by omega) hr)
theorem Few.get {n t : Nat} {g : Nat → Option (Nat × Nat)} (f : Few n t g) (hn : 1 ≤ n) (ht : 1 ≤ t) {r : Nat} (hr : r < n) : ∃ a b, g r = some (a, b) ∧ 1 ≤ a ∧ a ≤ n ∧ (∀ i, 1 ≤ i → (In n t i r ↔ a ≤ i)) ∧ b < n ∧ (a = 1 → r = pm b t n) ∧ (1 < a → In n t (a - 1) (((r : Int) - (pm b t n : Nat)) % (n : Int))) := by
  obtain ⟨a, b, h1, h2, h3, h4⟩ := f.ex r hr
  exact ⟨a, b, h1, h2, (h3 n hn).mp (In_n hn ht r hr), h3, h4⟩
/-! ### terms -/
def sumP (n t : Nat) (xs : List Nat) : Nat := (xs.map fun x => pm x t n).sum
theorem tm_loop {S : Store} {n t : Nat} {g : Nat → Option (Nat × Nat)} {a2 : Option Sl} (f : Few n t g) (h1 : 1 ≤ n) (h2 : n ≤ 500) (t1 : 1 ≤ t) (t2 : t ≤ 12) : ∀ (k h : Nat) (xs : List Nat) (lo : Int) (x6 : Option Sl), h < n → (∃ b, g h = some (k + 1, b)) → xs.length + k < 10000 → ∃ ys y5 y6, ys.length = k + 1 ∧ (∀ y ∈ ys, y < n) ∧ sumP n t ys % n = h ∧
    forL (gN 6) (fb1_terms_in fuel) ((rngI lo 1 (k + 1)).map D.int) [some (.fz (.int n)), some (.fz (.int t)), a2, some (.fz (.lst (FN n g))), some (.own (.lst (lN xs))), some (.fz (.int h)), x6] S =
      .nx [some (.fz (.int n)), some (.fz (.int t)), a2, some (.fz (.lst (FN n g))), some (.own (.lst (lN (xs ++ ys)))), y5, y6] S := by
  intro k
  induction k with
  | zero =>
    intro h xs lo x6 hh ⟨b, hb⟩ hl
    obtain ⟨a', b', e1, e2, e3, e4, e5, e6, e7⟩ := f.get h1 t1 hh
    rw [hb] at e1
    cases e1
    have hp := e6 rfl
    have ga := FN_at (g := g) (n := n) (i := h) (by omega) (by omega)
    have en : ((h : Int)).toNat = h := by omega
    rw [en, hb] at ga
    have ga : gIx (.lst (FN n g)) (.int h) = some (.tup [.int 1, .int b]) := ga
    have g1 : ∀ x y : D, gIx (.tup [x, y]) (.int 1) = some y := fun _ _ => rfl
    have ap : lN xs ++ [.int b] = lN (xs ++ [b]) := lN_app
    have la : gIx (.lst (lN xs ++ [.int (b : Nat)])) (.int (-1)) = some (.int b) := ix_last
    have pw := fun S => pw_in (S := S) (u := b) (e := t) (m := n) (by omega) (big60 (by omega)) (by omega)
    have md : ∀ x : Int, gMod (.int x) (.int n) = some (.int (x % n)) := fun x => o_mod (by omega)
    have ll : (lN xs).length < 1000000 := by rw [lN_len]; omega
    obtain ⟨L, hL⟩ : ∃ L, L = FN n g := ⟨_, rfl⟩
    rw [← hL] at ga ⊢
    refine ⟨[b], some (.fz (.int (((h : Int) - (pm b t n : Nat)) % n))), some (.fz (.int lo)), rfl, fun y hy => by rw [List.mem_singleton.mp hy]; exact e5, ?_, ?_⟩
    · have : sumP n t [b] = pm b t n := by simp [sumP]
      rw [this, ← hp, Nat.mod_eq_of_lt hh]
    · rw [rngI_succ, List.map_cons, for_nx (E1 := [some (.fz (.int n)), some (.fz (.int t)), a2, some (.fz (.lst L)), some (.own (.lst (lN xs))), some (.fz (.int h)), some (.fz (.int lo))])
        (E2 := [some (.fz (.int n)), some (.fz (.int t)), a2, some (.fz (.lst L)), some (.own (.lst (lN (xs ++ [b])))), some (.fz (.int (((h : Int) - (pm b t n : Nat)) % n))), some (.fz (.int lo))]) (S2 := S) rfl ?_]
      · rfl
      · rw [← ap]
        obtain ⟨M, hM⟩ : ∃ L, L = lN xs := ⟨_, rfl⟩
        rw [← hM] at la ll ⊢
        simp [fb1_terms_in, e_App, ll, ga, g1, la, pw, md]
  | succ k ih =>
    intro h xs lo x6 hh ⟨b, hb⟩ hl
    obtain ⟨a', b', e1, e2, e3, e4, e5, e6, e7⟩ := f.get h1 t1 hh
    rw [hb] at e1
    cases e1
    have e7 := e7 (by omega)
    rw [Nat.add_sub_cancel] at e7
    have c0 := Int.emod_nonneg ((h : Int) - (pm b t n : Nat)) (show (n : Int) ≠ 0 by omega)
    have c1 := Int.emod_lt_of_pos ((h : Int) - (pm b t n : Nat)) (show 0 < (n : Int) by omega)
    obtain ⟨h', hh'⟩ : ∃ h' : Nat, ((h : Int) - (pm b t n : Nat)) % n = h' := ⟨_, (Int.toNat_of_nonneg c0).symm⟩
    rw [hh'] at e7 c0 c1
    have nx : ∃ b', g h' = some (k + 1, b') := by
      obtain ⟨a', b', i1, i2, i3, i4, i5, i6, i7⟩ := f.get h1 t1 (show h' < n by omega)
      have u1 := (i4 (k + 1) (by omega)).mp e7
      have u2 : k + 2 ≤ a' + 1 := (e4 (a' + 1) (by omega)).mp (In_succ.mpr ⟨h', (i4 a' i2).mpr (Nat.le_refl _), b, e5, by
        rw [← hh', Int.emod_add_emod, Int.sub_add_cancel, Int.emod_eq_of_lt (by omega) (by omega)]⟩)
      have : a' = k + 1 := by omega
      exact ⟨b', by rw [i1, this]⟩
    obtain ⟨ys, y5, y6, j1, j2, j3, j4⟩ := ih h' (xs ++ [b]) (lo + 1) (some (.fz (.int lo))) (by omega) nx (by rw [List.length_append, List.length_singleton]; omega)
    have ga := FN_at (g := g) (n := n) (i := h) (by omega) (by omega)
    have en : ((h : Int)).toNat = h := by omega
    rw [en, hb] at ga
    have ga : gIx (.lst (FN n g)) (.int h) = some (.tup [.int (k + 1 + 1 : Nat), .int b]) := ga
    have g1 : ∀ x y : D, gIx (.tup [x, y]) (.int 1) = some y := fun _ _ => rfl
    have ap : lN xs ++ [.int b] = lN (xs ++ [b]) := lN_app
    have la : gIx (.lst (lN xs ++ [.int (b : Nat)])) (.int (-1)) = some (.int b) := ix_last
    have pw := fun S => pw_in (S := S) (u := b) (e := t) (m := n) (by omega) (big60 (by omega)) (by omega)
    have md : gMod (.int ((h : Int) - (pm b t n : Nat))) (.int n) = some (.int h') := by rw [← hh']; exact o_mod (by omega)
    have ll : (lN xs).length < 1000000 := by rw [lN_len]; omega
    obtain ⟨L, hL⟩ : ∃ L, L = FN n g := ⟨_, rfl⟩
    rw [← hL] at ga j4 ⊢
    refine ⟨b :: ys, y5, y6, by rw [List.length_cons, j1], fun y hy => ?_, ?_, ?_⟩
    · rcases List.mem_cons.mp hy with e | e
      · rw [e]; exact e5
      · exact j2 y e
    · have : sumP n t (b :: ys) = pm b t n + sumP n t ys := by simp [sumP]
      rw [this, Nat.add_mod, j3, Nat.mod_add_mod]
      have : (((pm b t n + h') % n : Nat) : Int) = h := by
        push_cast
        rw [← hh', Int.add_emod_emod, Int.add_comm, Int.sub_add_cancel, Int.emod_eq_of_lt (by omega) (by omega)]
      omega
    · rw [rngI_succ, List.map_cons, for_nx (E1 := [some (.fz (.int n)), some (.fz (.int t)), a2, some (.fz (.lst L)), some (.own (.lst (lN xs))), some (.fz (.int h)), some (.fz (.int lo))])
        (E2 := [some (.fz (.int n)), some (.fz (.int t)), a2, some (.fz (.lst L)), some (.own (.lst (lN (xs ++ [b])))), some (.fz (.int h')), some (.fz (.int lo))]) (S2 := S) rfl ?_]
      · rw [j4, List.append_assoc]; rfl
      · rw [← ap]
        obtain ⟨M, hM⟩ : ∃ L, L = lN xs := ⟨_, rfl⟩
        rw [← hM] at la ll ⊢
        simp [fb1_terms_in, e_App, ll, ga, g1, la, pw, md]
/-- how many terms -/
theorem dist_uniq {n t a b : Nat} {x : Int} (ha : 1 ≤ a) (hb : 1 ≤ b) (h1 : ∀ i, 1 ≤ i → (In n t i x ↔ a ≤ i)) (h2 : ∀ i, 1 ≤ i → (In n t i x ↔ b ≤ i)) : a = b := by
  have u1 := (h1 b hb).mp ((h2 b hb).mpr (Nat.le_refl _))
  have u2 := (h2 a ha).mp ((h1 a ha).mpr (Nat.le_refl _))
  omega
theorem power_terms {S : Store} {n t r : Nat} (h1 : 1 ≤ n) (h2 : n ≤ 500) (t1 : 2 ≤ t) (t2 : t ≤ 12) (hr : r < n) : ∃ xs a, xs.length = a ∧ 1 ≤ a ∧ a ≤ n ∧ (∀ i, 1 ≤ i → (In n t i r ↔ a ≤ i)) ∧ (∀ x ∈ xs, x < n) ∧ sumP n t xs % n = r ∧
    m_power_terms [.int n, .int t, .int r] S = .ok (.tup (lN xs)) S := by
  obtain ⟨g, few, fe⟩ := fewest_in (S := S) (n := n) (t := t) h1 h2 (by omega) t2
  obtain ⟨a, b, e1, e2, e3, e4, e5⟩ := few.get h1 (by omega) hr
  obtain ⟨k, rfl⟩ : ∃ k, a = k + 1 := ⟨a - 1, by omega⟩
  obtain ⟨ys, y5, y6, j1, j2, j3, j4⟩ := tm_loop (S := S) (a2 := some (.fz (.int r))) few h1 h2 (by omega) t2 k r [] 0 none hr ⟨b, e1⟩ (by simp; omega)
  refine ⟨ys, k + 1, j1, e2, e3, e4, j2, j3, ?_⟩
  have nf := fun S => need_few_ok (S := S) h1 h2 t1 t2
  have nr : ∀ S, m_need_rest [.int n, .int r] S = .ok .non S := fun S => need_rest_ok (by omega) (by omega)
  have ga := FN_at (g := g) (n := n) (i := r) (by omega) (by omega)
  have en : ((r : Int)).toNat = r := by omega
  rw [en, e1] at ga
  have ga : gIx (.lst (FN n g)) (.int r) = some (.tup [.int (k + 1 : Nat), .int b]) := ga
  have rr := rng1_ok (j := (k + 1 : Nat)) (by omega) (by omega)
  have ek : (((k + 1 : Nat) : Int)).toNat = k + 1 := by omega
  rw [ek] at rr
  have g0 : ∀ x y : D, gIx (.tup [x, y]) (.int 0) = some x := fun _ _ => rfl
  have l0 : lN [] = [] := rfl
  rw [l0, List.nil_append] at j4
  obtain ⟨L, hL⟩ : ∃ L, L = FN n g := ⟨_, rfl⟩
  rw [← hL] at ga j4 fe
  obtain ⟨R, hR⟩ : ∃ R, R = (rngI 0 1 (k + 1)).map D.int := ⟨_, rfl⟩
  rw [← hR] at rr j4
  obtain ⟨J, hJ⟩ : ∃ J : Int, J = ((k + 1 : Nat) : Int) := ⟨_, rfl⟩
  rw [← hJ] at ga rr
  have ti : m_terms_in [.int n, .int t, .int r] S = .ok (.lst (lN ys)) S := by
    simp [m_terms_in, f_terms_in, N_terms_in, startE, fe, ga, g0, rr, j4, frz]
  simp [m_power_terms, f_power_terms, N_power_terms, startE, nf, nr, ti, gTuple]
/-! ### values judged -/
def scal : D → Bool
  | .non => true
  | .bl _ => true
  | .int _ => true
  | .str s => PyData.strOk s
  | _ => false
theorem scal_py {d : D} (h : scal d = true) : ∃ p, d.py = some p ∧ p.canLay0 = true ∧ p.depth = 0 := by
  cases d with
  | non => exact ⟨_, rfl, rfl, rfl⟩
  | bl b => exact ⟨_, rfl, rfl, rfl⟩
  | int i => exact ⟨_, rfl, rfl, rfl⟩
  | str s => exact ⟨_, rfl, by simpa [PyData.canLay0, scal] using h, rfl⟩
  | _ => cases h
theorem scal_pys : ∀ {l : List D}, (∀ d ∈ l, scal d = true) → ∃ ps, D.pys l = some ps ∧ PyData.canLayAll0 ps = true ∧ PyData.depthAll ps = 0 ∧ (ps = [] ↔ l = [])
  | [], _ => ⟨[], rfl, rfl, rfl, by simp⟩
  | d :: l, h => by
    obtain ⟨p, a1, a2, a3⟩ := scal_py (h d (List.mem_cons_self ..))
    obtain ⟨ps, b1, b2, b3, b4⟩ := scal_pys fun x hx => h x (List.mem_cons_of_mem _ hx)
    refine ⟨p :: ps, by simp only [D.pys, a1, b1], by simp only [PyData.canLayAll0, a2, b2, Bool.and_self], by simp only [PyData.depthAll, a3, b3]; rfl, by simp⟩
theorem scal_eq {l : List D} (h : ∀ d ∈ l, scal d = true) : gEq (.lst l) (.lst []) = some (.bl (decide (l = []))) := by
  obtain ⟨ps, b1, b2, b3, b4⟩ := scal_pys h
  have s1 : SeqAt.shaped (.list ps) = true := by
    unfold SeqAt.shaped
    simp only [PyData.canLay0, b2, PyData.depth, b3]
    decide
  have s2 : SeqAt.shaped (PyData.list []) = true := by decide +kernel
  have e : PyData.eqvAll ps [] = decide (l = []) := by
    cases ps with
    | nil => rw [decide_eq_true (b4.mp rfl)]; rfl
    | cons a ps =>
      have : ¬ l = [] := fun z => by have := b4.mpr z; cases this
      rw [decide_eq_false this]; rfl
  simp only [gEq, eqD, scalD, deepD, D.py, b1, D.pys, Option.map_some, s1, s2, Bool.and_self, if_true, PyData.eqv, e]
/-- is it a rest? -/
def inR (n : Nat) : D → Bool
  | .int i => decide (0 ≤ i) && decide (i < n)
  | _ => false
def pwI (n t : Nat) : D → Int
  | .int i => i ^ t % n
  | _ => 0
def gd (n t a : Nat) (r : Int) : D → Bool
  | .tup l => decide (l.length = a) && (l.all (inR n) && decide ((l.map (pwI n t)).sum % n = r))
  | _ => false
def Vok : D → Prop
  | .tup l => (∀ d ∈ l, scal d = true) ∧ l.length ≤ 100000
  | .lst l => True
  | .non => True
  | .int _ => True
  | _ => False
theorem is_whole_sc {S : Store} {n : Nat} {d : D} (h : scal d = true) : m_is_whole [d, .int 0, .int ((n : Int) - 1)] S = .ok (.bl (inR n d)) S := by
  cases d with
  | int i =>
    rw [is_whole_int]
    congr 2
    show (_ && decide (i ≤ (n : Int) - 1)) = (_ && decide (i < (n : Int)))
    congr 1
    exact decide_eq_decide.mpr (by omega)
  | non => exact is_whole_no (is_integer_no (.inl rfl))
  | bl b => exact is_whole_no (is_integer_no (.inr (.inl rfl)))
  | str s => exact is_whole_no (is_integer_no (.inr (.inr (.inl rfl))))
  | _ => cases h
theorem tup_of {S : Store} {l : List D} {a : Nat} : m_is_tuple_of [.tup l, .int a, .int a] S = .ok (.bl (decide (l.length = a))) S := by
  have gl : gLen [.tup l] = some (.int l.length) := rfl
  by_cases c : l.length = a
  · subst c
    simp [m_is_tuple_of, f_is_tuple_of, N_is_tuple_of, startE, gIsi, tyName, isTy, gl]
  · by_cases e : a ≤ l.length
    · have : ¬ l.length ≤ a := by omega
      simp [m_is_tuple_of, f_is_tuple_of, N_is_tuple_of, startE, gIsi, tyName, isTy, gl, c, e, this]
    · simp [m_is_tuple_of, f_is_tuple_of, N_is_tuple_of, startE, gIsi, tyName, isTy, gl, c, e]
theorem tup_no {S : Store} {v a b : D} (h : tyName v = some "NoneType" ∨ tyName v = some "int" ∨ tyName v = some "list") : m_is_tuple_of [v, a, b] S = .ok (.bl false) S := by
  rcases h with h | h | h <;> simp [m_is_tuple_of, f_is_tuple_of, N_is_tuple_of, startE, gIsi, isTy, h]
theorem sum_pw {n t : Nat} (l : List D) : gSum [.lst (l.map fun d => D.int (pwI n t d))] = some (.int (l.map (pwI n t)).sum) := by
  have : (l.map fun d => D.int (pwI n t d)) = (l.map (pwI n t)).map D.int := by rw [List.map_map]; rfl
  show (ints? _).map _ = _
  rw [this, ints?_map]; rfl
theorem are_terms {S : Store} {n t r a : Nat} {v : D} (h1 : 1 ≤ n) (h2 : n ≤ 500) (t1 : 2 ≤ t) (t2 : t ≤ 12) (hr : r < n) (ha : 1 ≤ a) (hd : ∀ i, 1 ≤ i → (In n t i r ↔ a ≤ i)) (hv : Vok v) :
    m_are_power_terms [.int n, .int t, .int r, v] S = .ok (.bl (gd n t a r v)) S := by
  obtain ⟨g, few, fe⟩ := fewest_in (S := S) (n := n) (t := t) h1 h2 (by omega) t2
  obtain ⟨a', b, e1, e2, e3, e4, e5⟩ := few.get h1 (by omega) hr
  have : a' = a := dist_uniq e2 ha e4 hd
  subst this
  have nf := fun S => need_few_ok (S := S) h1 h2 t1 t2
  have nr : ∀ S, m_need_rest [.int n, .int r] S = .ok .non S := fun S => need_rest_ok (by omega) (by omega)
  have ga := FN_at (g := g) (n := n) (i := r) (by omega) (by omega)
  have en : ((r : Int)).toNat = r := by omega
  rw [en, e1] at ga
  have ga : gIx (.lst (FN n g)) (.int r) = some (.tup [.int a', .int b]) := ga
  have g0 : ∀ x y : D, gIx (.tup [x, y]) (.int 0) = some x := fun _ _ => rfl
  obtain ⟨L, hL⟩ : ∃ L, L = FN n g := ⟨_, rfl⟩
  rw [← hL] at ga fe
  have md : ∀ x : Int, gMod (.int x) (.int n) = some (.int (x % n)) := fun x => o_mod (by omega)
  cases v with
  | tup l =>
    obtain ⟨hs, hl⟩ := hv
    by_cases c : l.length = a'
    · have w := lcL_yes (g := gN 5) (e := le1_are_power_terms fuel) (E := [some (.fz (.int n)), some (.fz (.int t)), some (.fz (.int r)), some (.fz (.tup l)), some (.fz (.int a')), none]) (S := S) (n := fuel) (fun d : D => d) (fun d => D.bl (inR n d)) l fun d hd => by
        have iw := fun S => is_whole_sc (S := S) (n := n) (hs d hd)
        exact ⟨[some (.fz (.int n)), some (.fz (.int t)), some (.fz (.int r)), some (.fz (.tup l)), some (.fz (.int a')), some (.fz d)], rfl, by simp [le1_are_power_terms, iw]⟩
      rw [List.map_id'] at w
      have ga2 : gAll [.lst (l.map fun d => D.bl (inR n d))] = some (.bl (l.all (inR n))) := by
        have : (l.map fun d => D.bl (inR n d)) = (l.map (inR n)).map D.bl := by rw [List.map_map]; rfl
        show (bls? _).map _ = _
        rw [this, bls?_map]; simp [List.all_map]
      by_cases q : l.all (inR n) = true
      · have w2 := lcL_yes (g := gN 5) (e := le2_are_power_terms fuel) (E := [some (.fz (.int n)), some (.fz (.int t)), some (.fz (.int r)), some (.fz (.tup l)), some (.fz (.int a')), none]) (S := S) (n := fuel) (fun d : D => d) (fun d => D.int (pwI n t d)) l fun d hd => by
          have qd := List.all_eq_true.mp q d hd
          cases d with
          | int i =>
            have pw := fun S => power_in (S := S) (a := i) (g := n) (t := t) (by omega) (by have := big60 (show n < 2 ^ 60 by omega); omega) (big60 (by omega))
            exact ⟨[some (.fz (.int n)), some (.fz (.int t)), some (.fz (.int r)), some (.fz (.tup l)), some (.fz (.int a')), some (.fz (.int i))], rfl, by simp [le2_are_power_terms, pw, pwI]⟩
          | _ => cases qd
        rw [List.map_id'] at w2
        have su := sum_pw (n := n) (t := t) l
        have ln : (l.map fun d => D.bl (inR n d)).length ≤ 1000000 := by rw [List.length_map]; omega
        obtain ⟨W1, hW1⟩ : ∃ W, W = l.map fun d => D.bl (inR n d) := ⟨_, rfl⟩
        rw [← hW1] at w ga2
        have ln2 : (l.map fun d => D.int (pwI n t d)).length ≤ 1000000 := by rw [List.length_map]; omega
        obtain ⟨W2, hW2⟩ : ∃ W, W = l.map fun d => D.int (pwI n t d) := ⟨_, rfl⟩
        rw [← hW2] at w2 su ln2
        have ln0 : a' ≤ 1000000 := by omega
        simp [m_are_power_terms, f_are_power_terms, N_are_power_terms, startE, nf, nr, fe, ga, g0, tup_of, c, fLc, fIt, wipeE, w, ln0, ga2, q, w2, su, md, gd, ln2]
      · have q : l.all (inR n) = false := by simpa using q
        have ln0 : a' ≤ 1000000 := by omega
        obtain ⟨W1, hW1⟩ : ∃ W, W = l.map fun d => D.bl (inR n d) := ⟨_, rfl⟩
        have ln : W1.length ≤ 1000000 := by rw [hW1, List.length_map]; omega
        rw [← hW1] at w ga2
        simp [m_are_power_terms, f_are_power_terms, N_are_power_terms, startE, nf, nr, fe, ga, g0, tup_of, c, fLc, fIt, wipeE, w, ln0, ln, ga2, q, gd]
    · simp [m_are_power_terms, f_are_power_terms, N_are_power_terms, startE, nf, nr, fe, ga, g0, tup_of, c, gd]
  | lst l => simp [m_are_power_terms, f_are_power_terms, N_are_power_terms, startE, nf, nr, fe, ga, g0, tup_no (v := .lst l) (.inr (.inr rfl)), gd]
  | non => simp [m_are_power_terms, f_are_power_terms, N_are_power_terms, startE, nf, nr, fe, ga, g0, tup_no (v := .non) (.inl rfl), gd]
  | int i => simp [m_are_power_terms, f_are_power_terms, N_are_power_terms, startE, nf, nr, fe, ga, g0, tup_no (v := .int i) (.inr (.inl rfl)), gd]
  | _ => cases hv
end LW

end

section
set_option autoImplicit false
set_option autoImplicit false
namespace LW
open PySem PySem.Spec PyProof.Rows L2 DL NT
def Full (n t j : Nat) : Prop := ∀ r : Nat, r < n → In n t j r
theorem exJ {n t : Nat} (hn : 1 ≤ n) (ht : 1 ≤ t) : ∃ J, 1 ≤ J ∧ J ≤ n ∧ Full n t J ∧ ∀ j, 1 ≤ j → j < J → ¬ Full n t j := by
  have key : ∀ m, Full n t m → 1 ≤ m → m ≤ n → ∃ J, 1 ≤ J ∧ J ≤ n ∧ Full n t J ∧ ∀ j, 1 ≤ j → j < J → ¬ Full n t j := by
    intro m
    induction m using Nat.strongRecOn with
    | ind m ih =>
      intro h h1 h2
      by_cases c : ∃ j, 1 ≤ j ∧ j < m ∧ Full n t j
      · obtain ⟨j, j1, j2, j3⟩ := c
        exact ih j j2 j3 j1 (by omega)
      · exact ⟨m, h1, h2, h, fun j j1 j2 j3 => c ⟨j, j1, j2, j3⟩⟩
  exact key n (fun r hr => In_n hn ht r hr) hn (Nat.le_refl _)
theorem Full_le {n t i j : Nat} (hn : 1 ≤ n) (ht : 1 ≤ t) (h : i ≤ j) (f : Full n t i) : Full n t j := fun r hr => In_le hn ht h (f r hr)
theorem SS_full {n t j : Nat} (hn : 1 ≤ n) : (SS n t j).length < n ↔ ¬ Full n t j := by
  constructor
  · intro h f
    have := len_sub (l := rngI 0 1 n) (m := SS n t j) ((rngI_asc (by decide)).imp fun h => by omega) fun a ha => by
      obtain ⟨k, hk, rfl⟩ := mem_rngI.mp ha
      have := f k hk
      have e : (0 : Int) + (k : Int) * 1 = k := by omega
      rw [e]; exact this
    rw [rngI_length] at this
    omega
  · intro h
    apply Classical.byContradiction
    intro w
    apply h
    have p := perm_of_sub (m := rngI 0 1 n) (SS_nodup n t j) (fun a ha => by
      have := SS_res hn ha
      exact mem_rngI.mpr ⟨a.toNat, by omega, by omega⟩) (by rw [rngI_length]; omega)
    intro r hr
    exact p.mem_iff.mpr (mem_rngI.mpr ⟨r, hr, by omega⟩)
theorem SO_len {n t j : Nat} : (SO n t j).length = (SS n t j).length := (sortI_perm _).length_eq
theorem sort_uniq {l m : List Int} (hl : l.Nodup) (hm : m.Nodup) (h : ∀ x, x ∈ l ↔ x ∈ m) : sortI l = sortI m := by
  have p : l.Perm m := (List.perm_ext_iff_of_nodup hl hm).mpr fun x => h x
  exact sortI_eq ((sortI_perm l).trans p) (sortI_sorted l)
theorem SO_ext {n t i j : Nat} (h : ∀ x, In n t i x ↔ In n t j x) : SO n t i = SO n t j := sort_uniq (SS_nodup _ _ _) (SS_nodup _ _ _) h
/-! ### least_terms -/
def dF (g : Nat → Option (Nat × Nat)) (r : Nat) : Nat := ((g r).map (·.1)).getD 0
theorem max_ints {ns : List Int} (h : ns ≠ []) : gMax [.lst (ns.map D.int)] = some (.int (maxI ns)) := by
  cases ns with
  | nil => exact absurd rfl h
  | cons a l =>
    have : ints? ((a :: l).map D.int) = some (a :: l) := ints?_map _
    simp only [gMax, this]
theorem least_terms {S : Store} {n t J : Nat} (h1 : 1 ≤ n) (h2 : n ≤ 500) (t1 : 2 ≤ t) (t2 : t ≤ 12) (j1 : 1 ≤ J) (jf : Full n t J) (jl : ∀ j, 1 ≤ j → j < J → ¬ Full n t j) : m_least_terms [.int n, .int t] S = .ok (.int J) S := by
  obtain ⟨g, few, fe⟩ := fewest_in (S := S) (n := n) (t := t) h1 h2 (by omega) t2
  have nf := fun S => need_few_ok (S := S) h1 h2 t1 t2
  have dd : ∀ r, r < n → ∃ b, g r = some (dF g r, b) ∧ 1 ≤ dF g r ∧ ∀ i, 1 ≤ i → (In n t i r ↔ dF g r ≤ i) := fun r hr => by
    obtain ⟨a, b, e1, e2, e3, e4, _⟩ := few.get h1 (by omega) hr
    have : dF g r = a := by unfold dF; rw [e1]; rfl
    rw [this]; exact ⟨b, e1, e2, e4⟩
  have w := lcL_yes (g := gN 2) (e := le1_least_terms fuel) (E := [some (.fz (.int n)), some (.fz (.int t)), none]) (S := S) (n := fuel) (fun r => oD (g r)) (fun r => D.int (dF g r : Nat)) (List.range n) fun r hr => by
    obtain ⟨b, e, _⟩ := dd r (List.mem_range.mp hr)
    have g0 : ∀ x y : D, gIx (.tup [x, y]) (.int 0) = some x := fun _ _ => rfl
    exact ⟨[some (.fz (.int n)), some (.fz (.int t)), some (.fz (oD (g r)))], rfl, by rw [e]; simp [le1_least_terms, oD, g0]⟩
  have hm : ((List.range n).map fun r => D.int (dF g r : Nat)) = ((List.range n).map fun r => ((dF g r : Nat) : Int)).map D.int := by rw [List.map_map]; rfl
  have ne : ((List.range n).map fun r => ((dF g r : Nat) : Int)) ≠ [] := fun z => by
    have := congrArg List.length z
    simp at this; omega
  have mx := max_ints ne
  rw [← hm] at mx
  obtain ⟨s1, s2⟩ := maxI_spec _ ne
  have eJ : maxI ((List.range n).map fun r => ((dF g r : Nat) : Int)) = J := by
    obtain ⟨r0, hr0, e0⟩ := List.mem_map.mp s1
    have hr0 := List.mem_range.mp hr0
    obtain ⟨b0, _, a0, i0⟩ := dd r0 hr0
    have le : dF g r0 ≤ J := (i0 J j1).mp (jf r0 hr0)
    have ge : J ≤ dF g r0 := by
      by_cases c : J = 1
      · omega
      · have nf : ¬ Full n t (J - 1) := jl (J - 1) (by omega) (by omega)
        have : ∃ r, r < n ∧ ¬ In n t (J - 1) r := by
          apply Classical.byContradiction
          intro w
          exact nf fun r hr => Classical.byContradiction fun z => w ⟨r, hr, z⟩
        obtain ⟨r, hr, nr⟩ := this
        obtain ⟨b, _, a, i⟩ := dd r hr
        have : J ≤ dF g r := by
          apply Classical.byContradiction
          intro z
          exact nr ((i (J - 1) (by omega)).mpr (by omega))
        have := s2 _ (List.mem_map.mpr ⟨r, List.mem_range.mpr hr, rfl⟩)
        omega
    omega
  rw [eJ] at mx
  have hfn : ((List.range n).map fun r => oD (g r)) = FN n g := rfl
  rw [hfn] at w
  have ln := FN_len (n := n) (g := g)
  have ln6 : n ≤ 1000000 := by omega
  obtain ⟨L, hL⟩ : ∃ L, L = FN n g := ⟨_, rfl⟩
  rw [← hL] at w fe ln
  obtain ⟨M, hM⟩ : ∃ L, L = (List.range n).map fun r => D.int (dF g r : Nat) := ⟨_, rfl⟩
  rw [← hM] at w mx
  simp [m_least_terms, f_least_terms, N_least_terms, startE, nf, fe, fLc, fIt, wipeE, w, ln, ln6, mx]
/-! ### the law's sums -/
def SOs (n t j : Nat) : List D := (List.range j).map fun i => D.lst ((SO n t (i + 1)).map D.int)
theorem SOs_succ {n t j : Nat} : SOs n t (j + 1) = SOs n t j ++ [.lst ((SO n t (j + 1)).map D.int)] := by
  unfold SOs
  rw [List.range_succ, List.map_append]; rfl
theorem addAll_app : ∀ (xs ys ks : List Int), addAll ks (xs ++ ys) = addAll (addAll ks xs) ys
  | [], ys, ks => rfl
  | x :: xs, ys, ks => by
    show addAll _ (xs ++ ys) = addAll (addAll _ xs) ys
    rw [addAll_app xs ys]
theorem sl_in {S : Store} {n : Nat} {o : Int} {a1 a2 a3 a7 : Option Sl} (h1 : 1 ≤ n) (h2 : n ≤ 500) : ∀ (P ks : List Int) (x6 : Option Sl), ks.Nodup → (∀ a ∈ ks, 0 ≤ a ∧ a < n) → ∃ y6,
    forL (gN 6) (fb1__law_sums fuel) (P.map D.int) [some (.fz (.int n)), a1, a2, a3, some (.own (.dct (dk ks))), some (.fz (.int o)), x6, a7] S =
      .nx [some (.fz (.int n)), a1, a2, a3, some (.own (.dct (dk (addAll ks (P.map fun m => (o + m) % (n : Int)))))), some (.fz (.int o)), y6, a7] S
  | [], ks, x6, _, _ => ⟨x6, rfl⟩
  | m :: P, ks, x6, nd, res => by
    have c0 := Int.emod_nonneg (o + m) (show (n : Int) ≠ 0 by omega)
    have c1 := Int.emod_lt_of_pos (o + m) (show 0 < (n : Int) by omega)
    have md : gMod (.int (o + m)) (.int n) = some (.int ((o + m) % (n : Int))) := o_mod (by omega)
    have nx : addAll ks ((m :: P).map fun m => (o + m) % (n : Int)) = addAll (if (o + m) % (n : Int) ∈ ks then ks else ks ++ [(o + m) % (n : Int)]) (P.map fun m => (o + m) % (n : Int)) := rfl
    rw [nx]
    obtain ⟨c, hc⟩ : ∃ c, c = (o + m) % (n : Int) := ⟨_, rfl⟩
    rw [← hc] at c0 c1 md ⊢
    have nd2 : (if c ∈ ks then ks else ks ++ [c]).Nodup := by
      split
      · exact nd
      · rename_i hh
        rw [List.nodup_append]
        exact ⟨nd, by simp, fun a ha b hb e => hh (by rw [List.mem_singleton.mp hb] at e; rw [← e]; exact ha)⟩
    obtain ⟨y6, ih⟩ := sl_in (S := S) (o := o) (a1 := a1) (a2 := a2) (a3 := a3) (a7 := a7) h1 h2 P (if c ∈ ks then ks else ks ++ [c]) (some (.fz (.int m))) nd2 fun a ha => by
      split at ha
      · exact res a ha
      · rcases List.mem_append.mp ha with z | z
        · exact res a z
        · rw [List.mem_singleton.mp z]; exact ⟨c0, c1⟩
    refine ⟨y6, ?_⟩
    have pu := pu_dk (ks := ks) (k := c)
    have hlen : (dk ks).length < 1000000 := by
      unfold dk; rw [List.length_map]
      have := few_res nd res
      omega
    rw [List.map_cons, for_nx (E1 := [some (.fz (.int n)), a1, a2, a3, some (.own (.dct (dk ks))), some (.fz (.int o)), some (.fz (.int m)), a7])
      (E2 := [some (.fz (.int n)), a1, a2, a3, some (.own (.dct (dk (if c ∈ ks then ks else ks ++ [c])))), some (.fz (.int o)), some (.fz (.int m)), a7]) (S2 := S) rfl ?_]
    · exact ih
    · obtain ⟨K, hK⟩ : ∃ K, K = dk ks := ⟨_, rfl⟩
      rw [← hK] at pu hlen ⊢
      obtain ⟨K2, hK2⟩ : ∃ K, K = dk (if c ∈ ks then ks else ks ++ [c]) := ⟨_, rfl⟩
      rw [← hK2] at pu ⊢
      simp [fb1__law_sums, e_DSet, gInt, md, keyD, hlen, pu]
theorem sl_out {S : Store} {n : Nat} {P : List Int} {a1 a3 a7 : Option Sl} (h1 : 1 ≤ n) (h2 : n ≤ 500) : ∀ (A ks : List Int) (x5 x6 : Option Sl), ks.Nodup → (∀ a ∈ ks, 0 ≤ a ∧ a < n) → ∃ y5 y6,
    forL (gN 5) (fb2__law_sums fuel) (A.map D.int) [some (.fz (.int n)), a1, some (.fz (.lst (P.map D.int))), a3, some (.own (.dct (dk ks))), x5, x6, a7] S =
      .nx [some (.fz (.int n)), a1, some (.fz (.lst (P.map D.int))), a3, some (.own (.dct (dk (addAll ks (A.flatMap fun o => P.map fun m => (o + m) % (n : Int)))))), y5, y6, a7] S
  | [], ks, x5, x6, _, _ => ⟨x5, x6, rfl⟩
  | o :: A, ks, x5, x6, nd, res => by
    obtain ⟨z6, inn⟩ := sl_in (S := S) (o := o) (a1 := a1) (a2 := some (.fz (.lst (P.map D.int)))) (a3 := a3) (a7 := a7) h1 h2 P ks x6 nd res
    obtain ⟨y5, y6, ih⟩ := sl_out (S := S) (P := P) (a1 := a1) (a3 := a3) (a7 := a7) h1 h2 A (addAll ks (P.map fun m => (o + m) % (n : Int))) (some (.fz (.int o))) z6 (addAll_nodup _ _ nd) fun a ha => by
      rcases (mem_addAll _ _).mp ha with z | z
      · exact res a z
      · obtain ⟨m, _, rfl⟩ := List.mem_map.mp z
        exact ⟨Int.emod_nonneg _ (by omega), Int.emod_lt_of_pos _ (by omega)⟩
    refine ⟨y5, y6, ?_⟩
    have nx : addAll ks ((o :: A).flatMap fun o => P.map fun m => (o + m) % (n : Int)) = addAll (addAll ks (P.map fun m => (o + m) % (n : Int))) (A.flatMap fun o => P.map fun m => (o + m) % (n : Int)) := by
      rw [List.flatMap_cons, addAll_app]
    rw [nx]
    obtain ⟨K1, hK1⟩ : ∃ K, K = addAll ks (P.map fun m => (o + m) % (n : Int)) := ⟨_, rfl⟩
    rw [← hK1] at inn ih ⊢
    obtain ⟨Q, hQ⟩ : ∃ Q, Q = P.map D.int := ⟨_, rfl⟩
    obtain ⟨K2, hK2⟩ : ∃ K, K = addAll K1 (A.flatMap fun o => P.map fun m => (o + m) % (n : Int)) := ⟨_, rfl⟩
    rw [← hK2] at ih ⊢
    rw [← hQ] at inn ih ⊢
    rw [List.map_cons, for_nx (E1 := [some (.fz (.int n)), a1, some (.fz (.lst Q)), a3, some (.own (.dct (dk ks))), some (.fz (.int o)), x6, a7])
      (E2 := [some (.fz (.int n)), a1, some (.fz (.lst Q)), a3, some (.own (.dct (dk K1))), some (.fz (.int o)), z6, a7]) (S2 := S) rfl ?_]
    · exact ih
    · simp [fb2__law_sums, fIt, inn]
theorem law_sums {S : Store} {n t J : Nat} (h1 : 1 ≤ n) (h2 : n ≤ 500) (t1 : 2 ≤ t) (t2 : t ≤ 12) (j1 : 1 ≤ J) (jn : J ≤ n) (jf : Full n t J) (jl : ∀ j, 1 ≤ j → j < J → ¬ Full n t j) :
    m__law_sums [.int n, .int t] S = .ok (.lst (SOs n t J)) S := by
  have r := rng1_ok (j := n) (by omega) (by omega)
  have e : ((n : Int)).toNat = n := by omega
  rw [e, rng_nat] at r
  have l := lcL_yes (g := gN 7) (e := le1__law_sums fuel) (E := [some (.fz (.int n)), some (.fz (.int t)), none, none, none, none, none, none]) (S := S) (n := fuel) (fun k : Nat => D.int k) (fun k : Nat => D.int (pm k t n : Nat)) (List.range n) fun k hk => by
    have hk := List.mem_range.mp hk
    have p : ∀ S, m__law_power [.int k, .int t, .int n] S = .ok (.int (pm k t n : Nat)) S := fun S => by
      rw [law_power (by omega) (by have := big60 (show n < 2 ^ 60 by omega); omega) (big60 (by omega))]
      unfold pm; push_cast; rfl
    exact ⟨[some (.fz (.int n)), some (.fz (.int t)), none, none, none, none, none, some (.fz (.int k))], rfl, by simp [le1__law_sums, p]⟩
  have hm : (List.range n).map (fun k : Nat => D.int (pm k t n : Nat)) = (PL n t).map D.int := by unfold PL; rw [List.map_map]; rfl
  rw [hm] at l
  have gs : gSetS (.lst ((PL n t).map D.int)) = some (.lst ((PS n t).map D.int)) := by
    show (if ((PL n t).map D.int).length ≤ 4000 then _ else _) = _
    rw [List.length_map, if_pos (by rw [PL_len]; omega), ints?_map]
    rfl
  have key := while_rule (c := wc1__law_sums fuel) (b := wb1__law_sums fuel)
    (Q := fun E S' => S' = S ∧ ∃ x4 x5 x6, E = [some (.fz (.int n)), some (.fz (.int t)), some (.fz (.lst ((PS n t).map D.int))), some (.own (.lst (SOs n t J))), x4, x5, x6, none])
    (fun m E S' => S' = S ∧ ∃ (j : Nat) (x4 x5 x6 : Option Sl), E = [some (.fz (.int n)), some (.fz (.int t)), some (.fz (.lst ((PS n t).map D.int))), some (.own (.lst (SOs n t j))), x4, x5, x6, none] ∧ 1 ≤ j ∧ j ≤ J ∧ m = J - j)
    (by
      rintro m E S' ⟨rfl, j, x4, x5, x6, rfl, hj, hj2, hm⟩
      obtain ⟨i, rfl⟩ : ∃ i, j = i + 1 := ⟨j - 1, by omega⟩
      have la : gIx (.lst (SOs n t (i + 1))) (.int (-1)) = some (.lst ((SO n t (i + 1)).map D.int)) := by rw [SOs_succ]; exact ix_last
      have gl : gLen [.lst ((SO n t (i + 1)).map D.int)] = some (.int ((SO n t (i + 1)).length : Nat)) := by
        show some (D.int (((SO n t (i + 1)).map D.int).length : Nat)) = _
        rw [List.length_map]
      obtain ⟨P, hP⟩ : ∃ P, P = PS n t := ⟨_, rfl⟩
      by_cases c : i + 1 = J
      · refine .inl ⟨S', ?_, rfl, x4, x5, x6, by rw [c]⟩
        have : ¬ (SS n t (i + 1)).length < n := fun z => (SS_full h1).mp z (by rw [c]; exact jf)
        rw [← SO_len] at this
        obtain ⟨L, hL⟩ : ∃ L, L = SOs n t (i + 1) := ⟨_, rfl⟩
        obtain ⟨A, hA⟩ : ∃ L, L = (SO n t (i + 1)).map D.int := ⟨_, rfl⟩
        rw [← hL, ← hA] at la
        rw [← hA] at gl
        rw [← hL]
        obtain ⟨z, hz⟩ : ∃ z, z = (SO n t (i + 1)).length := ⟨_, rfl⟩
        rw [← hz] at gl this
        simp [wc1__law_sums, la, gl, this]
      · have lt : (SO n t (i + 1)).length < n := by rw [SO_len]; exact (SS_full h1).mpr (jl _ (by omega) (by omega))
        obtain ⟨y5, y6, ou⟩ := sl_out (S := S') (P := PS n t) (a1 := some (.fz (.int t))) (a3 := some (.own (.lst (SOs n t (i + 1))))) (a7 := none) h1 h2 (SO n t (i + 1)) [] x5 x6 List.nodup_nil (fun a ha => by cases ha)
        have so : sortI (addAll [] ((SO n t (i + 1)).flatMap fun o => (PS n t).map fun m => (o + m) % (n : Int))) = SO n t (i + 1 + 1) := by
          refine sort_uniq (addAll_nodup _ _ List.nodup_nil) (SS_nodup _ _ _) fun x => ?_
          rw [mem_SS_succ, mem_addAll]
          simp only [List.not_mem_nil, false_or, List.mem_flatMap, List.mem_map, mem_SO]
          constructor
          · rintro ⟨o, ho, m, hm, rfl⟩; exact ⟨o, ho, m, hm, rfl⟩
          · rintro ⟨o, ho, m, hm, rfl⟩; exact ⟨o, ho, m, hm, rfl⟩
        have gd : gSortedD [.dct (dk (addAll [] ((SO n t (i + 1)).flatMap fun o => (PS n t).map fun m => (o + m) % (n : Int))))] = some (.lst ((SO n t (i + 1 + 1)).map D.int)) := by
          show (keysI? _).map _ = _
          rw [keys_dk, Option.map_some, so]
        have su := SOs_succ (n := n) (t := t) (j := i + 1)
        have ll : (SOs n t (i + 1)).length < 1000000 := by unfold SOs; rw [List.length_map, List.length_range]; omega
        have d0 : dk [] = [] := rfl
        rw [d0] at ou
        obtain ⟨K, hK⟩ : ∃ K, K = dk (addAll [] ((SO n t (i + 1)).flatMap fun o => (PS n t).map fun m => (o + m) % (n : Int))) := ⟨_, rfl⟩
        rw [← hK] at ou gd
        refine .inr ⟨S', [some (.fz (.int n)), some (.fz (.int t)), some (.fz (.lst ((PS n t).map D.int))), some (.own (.lst (SOs n t (i + 1 + 1)))), some (.own (.dct K)), y5, y6, none], S', J - (i + 1 + 1), ?_, ?_, by omega, rfl, i + 1 + 1, _, y5, y6, rfl, by omega, by omega, rfl⟩
        · obtain ⟨L, hL⟩ : ∃ L, L = SOs n t (i + 1) := ⟨_, rfl⟩
          obtain ⟨A, hA⟩ : ∃ L, L = (SO n t (i + 1)).map D.int := ⟨_, rfl⟩
          rw [← hL, ← hA] at la
          rw [← hA] at gl
          rw [← hL]
          obtain ⟨z, hz⟩ : ∃ z, z = (SO n t (i + 1)).length := ⟨_, rfl⟩
          rw [← hz] at gl lt
          simp [wc1__law_sums, la, gl, lt]
        · rw [su]
          obtain ⟨L, hL⟩ : ∃ L, L = SOs n t (i + 1) := ⟨_, rfl⟩
          obtain ⟨A, hA⟩ : ∃ L, L = (SO n t (i + 1)).map D.int := ⟨_, rfl⟩
          obtain ⟨B, hB⟩ : ∃ L, L = (SO n t (i + 1 + 1)).map D.int := ⟨_, rfl⟩
          obtain ⟨Q, hQ⟩ : ∃ L, L = (PS n t).map D.int := ⟨_, rfl⟩
          rw [← hL, ← hA] at la ou
          rw [← hL] at ll ⊢
          rw [← hB] at gd ⊢
          rw [← hQ] at ou ⊢
          simp [wb1__law_sums, fIt, la, ou, gd, e_App, ll])
    _ fuel [some (.fz (.int n)), some (.fz (.int t)), some (.fz (.lst ((PS n t).map D.int))), some (.own (.lst (SOs n t 1))), none, none, none, none] S
    (by
      have : 2000 < fuel := by unfold fuel; decide
      exact Nat.lt_of_le_of_lt (show _ ≤ 501 by omega) (by omega))
    ⟨rfl, 1, none, none, none, rfl, by omega, j1, rfl⟩
  obtain ⟨E', S', w, rfl, x4, x5, x6, rfl⟩ := key
  have s1 : SOs n t 1 = [.lst ((PS n t).map D.int)] := by
    have : SO n t 1 = PS n t := by
      have a : (PS n t).Pairwise (· < ·) := setI_asc _
      have : (PS n t) = sortI (SS n t 1) := sortI_eq ((List.perm_ext_iff_of_nodup (a.imp fun h => by omega) (SS_nodup _ _ _)).mpr fun x => by
        have := In_one (t := t) (x := x) h1
        rw [mem_PS]; exact this.symm) (a.imp fun h => by omega)
      exact this.symm
    unfold SOs
    rw [List.range_succ, List.range_zero]
    simp [this]
  rw [s1] at w
  have hn6 : n ≤ 1000000 := by omega
  have hlen : ((List.range n).map fun k : Nat => D.int k).length ≤ 1000000 := by simp; omega
  obtain ⟨R, hR⟩ : ∃ R, R = (List.range n).map fun k : Nat => D.int k := ⟨_, rfl⟩
  rw [← hR] at l r hlen
  obtain ⟨Q, hQ⟩ : ∃ L, L = (PS n t).map D.int := ⟨_, rfl⟩
  rw [← hQ] at gs w
  obtain ⟨P, hP⟩ : ∃ P, P = (PL n t).map D.int := ⟨_, rfl⟩
  rw [← hP] at gs l
  obtain ⟨L, hL⟩ : ∃ L, L = SOs n t J := ⟨_, rfl⟩
  rw [← hL] at w ⊢
  simp [m__law_sums, f__law_sums, N__law_sums, startE, fLc, r, wipeE, l, hlen, gs, w, frz]
end LW

end

section
set_option autoImplicit false
set_option autoImplicit false
namespace LW
open PySem PySem.Spec PyProof.Rows L2 DL NT
theorem plain_ints {k : Nat} : ∀ l : List Int, (l.map D.int).all (plainD k) = true
  | [] => rfl
  | a :: l => by rw [List.map_cons, List.all_cons, plain_ints l]; cases k <;> rfl
theorem enumD_rng {n : Nat} (g : Nat → D) : enumD 0 ((List.range n).map g) = (List.range n).map fun r : Nat => D.tup [.int (r : Nat), g r] := by
  rw [enumD_map]
  apply List.ext_getElem?
  intro i
  rw [List.getElem?_mapIdx, List.getElem?_map]
  by_cases h : i < n
  · rw [List.getElem?_range h]; simp
  · rw [List.getElem?_eq_none (by simpa using h)]; rfl
theorem ix0 {l : List D} {d : D} (h : l.head? = some d) : gIx (.lst l) (.int 0) = some d := by
  cases l with
  | nil => cases h
  | cons a l =>
    cases h
    show atI (d :: l) 0 = some d
    unfold atI
    have : ixN (d :: l).length 0 = some 0 := ixN_nat (n := (d :: l).length) (i := 0) (by simp)
    rw [this]; rfl
theorem ix_nat {l : List D} {i : Nat} {d : D} (h : l[i]? = some d) : gIx (.lst l) (.int i) = some d := by
  show atI l i = some d
  unfold atI
  have : i < l.length := (List.getElem?_eq_some_iff.mp h).1
  rw [ixN_nat this]; exact h
/-- one value -/
theorem rv_step {S : Store} {n t r a : Nat} {v : D} {a3 a4 a5 a6 a9 a10 a11 x13 : Option Sl} (h1 : 1 ≤ n) (h2 : n ≤ 500) (t1 : 2 ≤ t) (t2 : t ≤ 12) (hr : r < n) (ha : 1 ≤ a) (hd : ∀ i, 1 ≤ i → (In n t i r ↔ a ≤ i)) (hv : Vok v) :
    fb1__law_right fuel [some (.fz (.hd 0)), some (.fz (.int n)), some (.fz (.int t)), a3, a4, a5, a6, some (.fz (.int r)), some (.fz (.int a)), a9, a10, a11, some (.fz v), x13, none, none, none, none] S =
      .nx [some (.fz (.hd 0)), some (.fz (.int n)), some (.fz (.int t)), a3, a4, a5, a6, some (.fz (.int r)), some (.fz (.int a)), a9, a10, a11, some (.fz v), some (.fz (.bl (gd n t a r v))), none, none, none, none] S := by
  have at1 := fun S => are_terms (S := S) h1 h2 t1 t2 hr ha hd hv
  have lk : ∀ S, m__law_like [.bl (gd n t a r v), .bl (gd n t a r v)] S = .ok (.bl true) S := fun S => like rfl
  have md : ∀ x : Int, gMod (.int x) (.int n) = some (.int (x % n)) := fun x => o_mod (by omega)
  cases v with
  | tup l =>
    obtain ⟨hs, hl⟩ := hv
    have gl : gLen [.tup l] = some (.int l.length) := rfl
    have ln0 : l.length ≤ 1000000 := by omega
    by_cases c : l.length = a
    · have ln0 : a ≤ 1000000 := by omega
      have w := lcL_all (g := gN 17) (c := lt2__law_right fuel) (e := le4__law_right fuel) (E := [some (.fz (.hd 0)), some (.fz (.int n)), some (.fz (.int t)), a3, a4, a5, a6, some (.fz (.int r)), some (.fz (.int a)), a9, a10, a11, some (.fz (.tup l)), x13, none, none, none, none]) (S := S) (fun d : D => d) (fun d => d) (fun d => !inR n d) l fun d hd => by
        refine ⟨[some (.fz (.hd 0)), some (.fz (.int n)), some (.fz (.int t)), a3, a4, a5, a6, some (.fz (.int r)), some (.fz (.int a)), a9, a10, a11, some (.fz (.tup l)), x13, none, none, none, some (.fz d)], rfl, ?_, fun _ => by simp [le4__law_right]⟩
        have sd := hs d hd
        cases d with
        | int i =>
          by_cases c1 : 0 ≤ i
          · simp [lt2__law_right, inR, c1]
          · simp [lt2__law_right, inR, c1]
        | non => simp [lt2__law_right, inR]
        | bl b => simp [lt2__law_right, inR]
        | str b => simp [lt2__law_right, inR]
        | _ => cases sd
      rw [List.map_id', List.map_id'] at w
      have fe : (l.filter fun d => !inR n d) = [] ↔ l.all (inR n) = true := by
        rw [List.filter_eq_nil_iff, List.all_eq_true]
        constructor
        · intro h d hd; simpa using h d hd
        · intro h d hd; simp [h d hd]
      have se := scal_eq (l := l.filter fun d => !inR n d) fun d hd => hs d (List.mem_filter.mp hd).1
      have de : decide ((l.filter fun d => !inR n d) = []) = l.all (inR n) := by
        by_cases q : l.all (inR n) = true
        · rw [q, decide_eq_true (fe.mpr q)]
        · rw [Bool.not_eq_true] at q
          rw [q, decide_eq_false]
          intro z; rw [fe.mp z] at q; cases q
      rw [de] at se
      obtain ⟨F, hF⟩ : ∃ F, F = l.filter fun d => !inR n d := ⟨_, rfl⟩
      rw [← hF] at w se
      by_cases q : l.all (inR n) = true
      · have w2 := fun (x13 : Option Sl) => lcL_yes (g := gN 17) (e := le5__law_right fuel) (E := [some (.fz (.hd 0)), some (.fz (.int n)), some (.fz (.int t)), a3, a4, a5, a6, some (.fz (.int r)), some (.fz (.int a)), a9, a10, a11, some (.fz (.tup l)), x13, none, none, none, none]) (S := S) (n := fuel) (fun d : D => d) (fun d => D.int (pwI n t d)) l fun d hd => by
          have qd := List.all_eq_true.mp q d hd
          cases d with
          | int i =>
            have pw := fun S => law_power (S := S) (a := i) (g := n) (t := t) (by omega) (by have := big60 (show n < 2 ^ 60 by omega); omega) (big60 (by omega))
            exact ⟨[some (.fz (.hd 0)), some (.fz (.int n)), some (.fz (.int t)), a3, a4, a5, a6, some (.fz (.int r)), some (.fz (.int a)), a9, a10, a11, some (.fz (.tup l)), x13, none, none, none, some (.fz (.int i))], rfl, by simp [le5__law_right, pw, pwI]⟩
          | _ => cases qd
        simp only [List.map_id'] at w2
        have su := sum_pw (n := n) (t := t) l
        obtain ⟨W2, hW2⟩ : ∃ W, W = l.map fun d => D.int (pwI n t d) := ⟨_, rfl⟩
        have ln2 : W2.length ≤ 1000000 := by rw [hW2, List.length_map]; omega
        rw [← hW2] at w2 su
        have gv : gd n t a r (.tup l) = decide ((l.map (pwI n t)).sum % n = r) := by simp [gd, c, q]
        rw [gv] at at1 lk ⊢
        obtain ⟨s, hs'⟩ : ∃ s, s = (l.map (pwI n t)).sum := ⟨_, rfl⟩
        rw [← hs'] at su at1 lk ⊢
        rw [q] at se
        simp only [gInt, fb1__law_right, e_Seq, e_Set, e_And, e_CB, e_Cons, e_Nil, e_r0, e_v0, e_C]
        simp [gIsi, tyName, isTy, gl, c, fLc, fIt, wipeE, ln0, w, se, w2, su, md, at1, lk, gInt]
      · have q : l.all (inR n) = false := by simpa using q
        have gv : gd n t a r (.tup l) = false := by simp [gd, q]
        rw [gv] at at1 lk ⊢
        rw [q] at se
        simp [fb1__law_right, gIsi, tyName, isTy, gl, c, fLc, fIt, wipeE, ln0, w, se, at1, lk]
    · have gv : gd n t a r (.tup l) = false := by simp [gd, c]
      rw [gv] at at1 lk ⊢
      have c2 : ¬ (l.length : Int) = a := by omega
      simp [fb1__law_right, gIsi, tyName, isTy, gl, c2, at1, lk]
  | lst l =>
    have gv : gd n t a r (.lst l) = false := rfl
    rw [gv] at at1 lk ⊢
    simp [fb1__law_right, gIsi, tyName, isTy, at1, lk]
  | non =>
    have gv : gd n t a r (.non) = false := rfl
    rw [gv] at at1 lk ⊢
    simp [fb1__law_right, gIsi, tyName, isTy, at1, lk]
  | int i =>
    have gv : gd n t a r (.int i) = false := rfl
    rw [gv] at at1 lk ⊢
    simp [fb1__law_right, gIsi, tyName, isTy, at1, lk]
  | _ => cases hv
theorem rv_loop {S : Store} {n t r a : Nat} {a3 a4 a5 a6 a9 a10 a11 : Option Sl} (h1 : 1 ≤ n) (h2 : n ≤ 500) (t1 : 2 ≤ t) (t2 : t ≤ 12) (hr : r < n) (ha : 1 ≤ a) (hd : ∀ i, 1 ≤ i → (In n t i r ↔ a ≤ i)) : ∀ (vs : List D) (x12 x13 : Option Sl), (∀ v ∈ vs, Vok v) → ∃ y12 y13,
    forL (gN 12) (fb1__law_right fuel) vs [some (.fz (.hd 0)), some (.fz (.int n)), some (.fz (.int t)), a3, a4, a5, a6, some (.fz (.int r)), some (.fz (.int a)), a9, a10, a11, x12, x13, none, none, none, none] S =
      .nx [some (.fz (.hd 0)), some (.fz (.int n)), some (.fz (.int t)), a3, a4, a5, a6, some (.fz (.int r)), some (.fz (.int a)), a9, a10, a11, y12, y13, none, none, none, none] S
  | [], x12, x13, _ => ⟨x12, x13, rfl⟩
  | v :: vs, x12, x13, h => by
    obtain ⟨y12, y13, ih⟩ := rv_loop (S := S) (a3 := a3) (a4 := a4) (a5 := a5) (a6 := a6) (a9 := a9) (a10 := a10) (a11 := a11) h1 h2 t1 t2 hr ha hd vs (some (.fz v)) (some (.fz (.bl (gd n t a r v)))) fun w hw => h w (List.mem_cons_of_mem _ hw)
    exact ⟨y12, y13, (for_nx rfl (rv_step h1 h2 t1 t2 hr ha hd (h v (List.mem_cons_self ..)))).trans ih⟩
/-- some rests are drawn -/
theorem dr_loop {n : Nat} {E : DL.Env} (h1 : 1 ≤ n) (h2 : n ≤ 500) (e0 : E[0]? = some (some (.fz (.hd 0)))) (e1 : E[1]? = some (some (.fz (.int n)))) (eL : 14 < E.length) : ∀ (l : List Int) (S : Store), Cup S → ∃ S' ds, Cup S' ∧ ds.length = l.length ∧ (∀ d ∈ ds, scal d = true) ∧
    lcL (gN 14) (fYes fuel) (le2__law_right fuel) (l.map D.int) E S = .ok ds S'
  | [], S, hc => ⟨S, [], hc, rfl, fun d hd => (by cases hd), rfl⟩
  | i :: l, S, hc => by
    obtain ⟨x, S1, r1, c1, _, _⟩ := law_roll hc (k := n) (by omega) (by omega)
    obtain ⟨S2, ds, c2, l2, s2, ih⟩ := dr_loop h1 h2 e0 e1 eL l S1 c1
    refine ⟨S2, .int x :: ds, c2, by rw [List.length_cons, List.length_cons, l2], fun d hd => ?_, ?_⟩
    · rcases List.mem_cons.mp hd with z | z
      · subst z; rfl
      · exact s2 d z
    · have g : gN 14 (.int i) E = some (E.set 14 (some (.fz (.int i)))) := rfl
      have y : ∀ E, fYes fuel E S = .ok true S := fun _ => rfl
      have f0 : (E.set 14 (some (.fz (.int i))))[0]? = some (some (.fz (.hd 0))) := by rw [List.getElem?_set_ne (by omega)]; exact e0
      have f1 : (E.set 14 (some (.fz (.int i))))[1]? = some (some (.fz (.int n))) := by rw [List.getElem?_set_ne (by omega)]; exact e1
      have e : le2__law_right fuel (E.set 14 (some (.fz (.int i)))) S = .ok (.int x) S1 := by
        simp only [le2__law_right, e_Call, e_Cons, e_Nil, e_v0, f0, f1, e_bind_ok, r1]
      simp only [List.map_cons, lcL, g, y, e, ih, e_bindN_ok]
end LW

end

section
set_option autoImplicit false
set_option autoImplicit false
namespace LW
open PySem PySem.Spec PyProof.Rows L2 DL NT
theorem lN_scal {l : List Nat} : ∀ d ∈ lN l, scal d = true := fun d hd => by
  obtain ⟨i, _, rfl⟩ := List.mem_map.mp hd
  rfl
theorem cut_mem {l : List D} {a b : Option Int} {d : D} (h : d ∈ DL.cutD l a b) : d ∈ l := List.mem_of_mem_drop (List.mem_of_mem_take h)
theorem cut_len {l : List D} {a b : Option Int} : (DL.cutD l a b).length ≤ l.length := by
  unfold DL.cutD
  rw [List.length_take, List.length_drop]; omega
theorem rep1 {d : D} {k : Nat} (h : k ≤ 1000) : gRepT (.tup [d]) (.int k) = some (.tup (List.replicate k d)) := by
  have e : (List.replicate k [d]).flatten = List.replicate k d := by
    clear h
    induction k with
    | zero => rfl
    | succ k ih => rw [List.replicate_succ, List.replicate_succ, List.flatten_cons, ih]; rfl
  have h1 : decide ((-1000 : Int) ≤ k) = true := by rw [decide_eq_true_eq]; omega
  have h2 : decide ((k : Int) ≤ 1000) = true := by rw [decide_eq_true_eq]; omega
  have ek : (k : Int).toNat = k := by omega
  simp [gRepT, h1, h2, ek, e]
theorem rep_ok {d : D} {k : Nat} (h : k ≤ 1000) (hd : scal d = true) : Vok (.tup (List.replicate k d)) := by
  refine ⟨fun x hx => ?_, by rw [List.length_replicate]; omega⟩
  rw [(List.mem_replicate.mp hx).2]; exact hd
theorem told_good {n t r a : Nat} {xs : List Nat} (hn : 1 ≤ n) (hl : xs.length = a) (hx : ∀ x ∈ xs, x < n) (hs : sumP n t xs % n = r) : gd n t a r (.tup (lN xs)) = true := by
  have c1 : (lN xs).length = a := by rw [lN_len]; exact hl
  have c2 : (lN xs).all (inR n) = true := by
    rw [List.all_eq_true]
    intro d hd
    obtain ⟨i, hi, rfl⟩ := List.mem_map.mp hd
    obtain ⟨x, hx', rfl⟩ := List.mem_map.mp hi
    have := hx x hx'
    show (decide ((0 : Int) ≤ x) && decide ((x : Int) < n)) = true
    simp; omega
  have c3 : ((lN xs).map (pwI n t)).sum % n = r := by
    have e : ∀ l : List Nat, ((lN l).map (pwI n t)).sum = (sumP n t l : Nat) := by
      intro l
      induction l with
      | nil => rfl
      | cons x l ih =>
        rw [lN_cons, List.map_cons, List.sum_cons, ih]
        have : sumP n t (x :: l) = pm x t n + sumP n t l := by simp [sumP]
        rw [this]
        have : pwI n t (.int x) = (pm x t n : Nat) := by unfold pwI pm; push_cast; rfl
        rw [this]; push_cast; rfl
    rw [e]; omega
  simp [gd, c1, c2, c3]
/-- one rest -/
theorem rr_step {S : Store} {n t J : Nat} {a4 a5 x7 x8 x9 x10 x11 x12 x13 : Option Sl} {lo : Int} (hc : Cup S) (h1 : 1 ≤ n) (h2 : n ≤ 500) (t1 : 2 ≤ t) (t2 : t ≤ 12) (j1 : 1 ≤ J) (jn : J ≤ n) (jf : Full n t J) :
    ∃ S' y7 y8 y9 y10 y11 y12 y13, Cup S' ∧ fb2__law_right fuel [some (.fz (.hd 0)), some (.fz (.int n)), some (.fz (.int t)), some (.fz (.lst (SOs n t J))), a4, a5, some (.fz (.int lo)), x7, x8, x9, x10, x11, x12, x13, none, none, none, none] S =
      .nx [some (.fz (.hd 0)), some (.fz (.int n)), some (.fz (.int t)), some (.fz (.lst (SOs n t J))), a4, a5, some (.fz (.int lo)), y7, y8, y9, y10, y11, y12, y13, none, none, none, none] S' := by
  obtain ⟨r, S1, rl, c1, p0, p1⟩ := law_roll hc (k := n) (by omega) (by omega)
  obtain ⟨r, rfl⟩ : ∃ k : Nat, r = k := ⟨r.toNat, by omega⟩
  have hr : r < n := by omega
  obtain ⟨xs, a, hl, ha, han, hd, hx, hs, pt⟩ := power_terms (S := S1) (n := n) (t := t) (r := r) h1 h2 t1 t2 hr
  have haJ : a ≤ J := (hd J j1).mp (jf r hr)
  -- the fewest
  have fw : ∀ x8, fOp gIx (fLc (fLift enum? (fCons (fVar 3) fNil)) (gT (gConss (gN 14) (gConss (gN 15) gNils))) lt1__law_right le1__law_right [14, 15]) (fC (.int 0)) fuel [some (.fz (.hd 0)), some (.fz (.int n)), some (.fz (.int t)), some (.fz (.lst (SOs n t J))), a4, a5, some (.fz (.int lo)), some (.fz (.int r)), x8, x9, x10, x11, x12, x13, none, none, none, none] S1 = .ok (.int a) S1 := fun x8 => by
    have en : enum? [.lst (SOs n t J)] = some ((List.range J).map fun i : Nat => D.tup [.int (i : Nat), .lst ((SO n t (i + 1)).map D.int)]) := congrArg some (enumD_rng fun i => D.lst ((SO n t (i + 1)).map D.int))
    have w := lcL_all (g := gT (gConss (gN 14) (gConss (gN 15) gNils))) (c := lt1__law_right fuel) (e := le1__law_right fuel) (E := [some (.fz (.hd 0)), some (.fz (.int n)), some (.fz (.int t)), some (.fz (.lst (SOs n t J))), a4, a5, some (.fz (.int lo)), some (.fz (.int r)), x8, x9, x10, x11, x12, x13, none, none, none, none]) (S := S1)
      (fun i : Nat => D.tup [.int (i : Nat), .lst ((SO n t (i + 1)).map D.int)]) (fun i : Nat => D.int ((i : Int) + 1)) (fun i => decide (a ≤ i + 1)) (List.range J) fun i hi => by
      refine ⟨[some (.fz (.hd 0)), some (.fz (.int n)), some (.fz (.int t)), some (.fz (.lst (SOs n t J))), a4, a5, some (.fz (.int lo)), some (.fz (.int r)), x8, x9, x10, x11, x12, x13, some (.fz (.int i)), some (.fz (.lst ((SO n t (i + 1)).map D.int))), none, none], rfl, ?_, fun _ => by simp [le1__law_right]⟩
      have il := in_lst (i := r) (ns := SO n t (i + 1))
      have ea : ((SO n t (i + 1)).any fun n => n == (r : Int)) = decide (a ≤ i + 1) := by
        have h3 := hd (i + 1) (by omega)
        have h4 : In n t (i + 1) r ↔ (r : Int) ∈ SO n t (i + 1) := mem_SO.symm
        by_cases q : a ≤ i + 1
        · rw [decide_eq_true q, List.any_eq_true]
          exact ⟨r, h4.mp (h3.mpr q), by simp⟩
        · rw [decide_eq_false q, List.any_eq_false]
          intro x hx z
          have : x = r := by simpa using z
          subst this
          exact q (h3.mp (h4.mpr hx))
      rw [ea] at il
      obtain ⟨L, hL⟩ : ∃ L, L = (SO n t (i + 1)).map D.int := ⟨_, rfl⟩
      rw [← hL] at il ⊢
      simp [lt1__law_right, il]
    have hh : (((List.range J).filter fun i => decide (a ≤ i + 1)).map fun i : Nat => D.int ((i : Int) + 1)).head? = some (.int a) := by
      rw [List.head?_map, List.head?_filter]
      have : (List.range J).find? (fun i => decide (a ≤ i + 1)) = some (a - 1) := by
        rw [List.find?_range_eq_some]
        refine ⟨by simp; omega, List.mem_range.mpr (by omega), fun j hj => by simp; omega⟩
      rw [this]
      show some (D.int (((a - 1 : Nat) : Int) + 1)) = _
      congr 2; omega
    have ix := ix0 hh
    have ln : ((List.range J).map fun i : Nat => D.tup [.int (i : Nat), .lst ((SO n t (i + 1)).map D.int)]).length ≤ 1000000 := by rw [List.length_map, List.length_range]; omega
    obtain ⟨R, hR⟩ : ∃ R, R = (List.range J).map fun i : Nat => D.tup [.int (i : Nat), .lst ((SO n t (i + 1)).map D.int)] := ⟨_, rfl⟩
    rw [← hR] at w en ln
    obtain ⟨M, hM⟩ : ∃ M, M = ((List.range J).filter fun i => decide (a ≤ i + 1)).map fun i : Nat => D.int ((i : Int) + 1) := ⟨_, rfl⟩
    rw [← hM] at w ix
    obtain ⟨L, hL⟩ : ∃ L, L = SOs n t J := ⟨_, rfl⟩
    rw [← hL] at w en ⊢
    simp [fLc, en, ln, wipeE, w, ix]
  -- the drawn
  obtain ⟨S2, ds, c2, dl, dsc, dw⟩ := dr_loop (E := [some (.fz (.hd 0)), some (.fz (.int n)), some (.fz (.int t)), some (.fz (.lst (SOs n t J))), a4, a5, some (.fz (.int lo)), some (.fz (.int r)), some (.fz (.int a)), some (.fz (.tup (lN xs))), x10, x11, x12, x13, none, none, none, none]) h1 h2 rfl rfl (by simp) (rngI 0 1 a) S1 c1
  rw [rngI_length] at dl
  have rr := rng1_ok (j := a) (by omega) (by omega)
  have ea : ((a : Int)).toNat = a := by omega
  rw [ea] at rr
  have rlen : ((rngI 0 1 a).map D.int).length ≤ 1000000 := by rw [List.length_map, rngI_length]; omega
  -- the values
  have xl : (lN xs).length = a := by rw [lN_len]; exact hl
  have r1 := rep1 (d := .int 1) (k := r) (by omega)
  have q1 := rep1 (d := .non) (k := a) (by omega)
  have q2 := rep1 (d := .bl true) (k := a) (by omega)
  have q3 := rep1 (d := .int n) (k := a) (by omega)
  have q4 := rep1 (d := .str "1") (k := a) (by omega)
  have ad : gAdd (.tup (lN xs)) (.tup [.int 0]) = some (.tup (lN xs ++ [.int 0])) := o_addT (by rw [xl]; unfold sizeLine; simp; omega)
  obtain ⟨V1, hV1⟩ : ∃ V, V = [D.tup (lN xs), .tup (lN xs).reverse, .lst (lN xs), .tup (DL.cutD (lN xs) (some 1) none), .tup (lN xs ++ [.int 0]), .tup ds, .non, .tup [], .int 5, .tup (List.replicate r (.int 1))] := ⟨_, rfl⟩
  obtain ⟨V2, hV2⟩ : ∃ V, V = [D.tup (List.replicate a .non), .tup (List.replicate a (.bl true)), .tup (List.replicate a (.int n)), .tup (List.replicate a (.str "1"))] := ⟨_, rfl⟩
  have ok : ∀ v ∈ V1 ++ V2, Vok v := by
    rw [hV1, hV2]
    intro v hv
    simp only [List.mem_append, List.mem_cons, List.not_mem_nil, or_false] at hv
    rcases hv with (h | h | h | h | h | h | h | h | h | h) | (h | h | h | h) <;> rw [h]
    · exact ⟨lN_scal, by rw [xl]; omega⟩
    · exact ⟨fun d hd => lN_scal d (List.mem_reverse.mp hd), by rw [List.length_reverse, xl]; omega⟩
    · trivial
    · exact ⟨fun d hd => lN_scal d (cut_mem hd), Nat.le_trans cut_len (by rw [xl]; omega)⟩
    · refine ⟨fun d hd => ?_, by rw [List.length_append, xl]; simp; omega⟩
      rcases List.mem_append.mp hd with z | z
      · exact lN_scal d z
      · rw [List.mem_singleton.mp z]; rfl
    · exact ⟨dsc, by rw [dl]; omega⟩
    · trivial
    · exact ⟨fun d hd => (by cases hd), by simp⟩
    · trivial
    · exact rep_ok (by omega) rfl
    · exact rep_ok (by omega) rfl
    · exact rep_ok (by omega) rfl
    · exact rep_ok (by omega) rfl
    · exact rep_ok (by omega) (by decide +kernel)
  obtain ⟨y12, y13, rv⟩ := rv_loop (S := S2) (a3 := some (.fz (.lst (SOs n t J)))) (a4 := a4) (a5 := a5) (a6 := some (.fz (.int lo))) (a9 := some (.fz (.tup (lN xs)))) (a10 := some (.fz (.tup ds))) (a11 := some (.fz (.lst (V1 ++ V2)))) h1 h2 t1 t2 hr ha hd (V1 ++ V2) x12 x13 ok
  have av : gAdd (.lst V1) (.lst V2) = some (.lst (V1 ++ V2)) := o_addL (by rw [hV1, hV2]; unfold sizeLine; simp)
  have at1 := fun S => are_terms (S := S) h1 h2 t1 t2 hr ha hd (v := .tup (lN xs)) ⟨lN_scal, by rw [xl]; omega⟩
  simp only [told_good h1 hl hx hs] at at1
  have gl : gLen [.tup (lN xs)] = some (.int a) := by
    show some (D.int ((lN xs).length : Nat)) = _
    rw [xl]
  obtain ⟨X, hX⟩ : ∃ X, X = lN xs := ⟨_, rfl⟩
  obtain ⟨R, hR⟩ : ∃ R, R = (rngI 0 1 a).map D.int := ⟨_, rfl⟩
  rw [← hX] at pt dw ad rv at1 gl
  rw [← hR] at rr dw rlen
  obtain ⟨L, hL⟩ : ∃ L, L = SOs n t J := ⟨_, rfl⟩
  rw [← hL] at dw rv ⊢
  have gli : gList [.tup X] = some (.lst X) := rfl
  have dt : gTuple [.lst ds] = some (.tup ds) := rfl
  refine ⟨S2, some (.fz (.int r)), some (.fz (.int a)), some (.fz (.tup X)), some (.fz (.tup ds)), some (.fz (.lst (V1 ++ V2))), y12, y13, c2, ?_⟩
  have is1 : gIsNB (.bl true) (.bl true) = some (.bl false) := rfl
  rw [← hX] at hV1
  obtain ⟨F4, hF4⟩ : ∃ F, F = fLc (fIt (fTup (fCons (fC .non) (fCons (fC (.bl true)) (fCons (fVar 1) (fCons (fC (.str "1")) fNil)))))) (gN 16) fYes le3__law_right [16] := ⟨_, rfl⟩
  have e2 : F4 fuel [some (.fz (.hd 0)), some (.fz (.int n)), some (.fz (.int t)), some (.fz (.lst L)), a4, a5, some (.fz (.int lo)), some (.fz (.int r)), some (.fz (.int a)), some (.fz (.tup X)), some (.fz (.tup ds)), some (.fz (.lst V1)), x12, x13, none, none, none, none] S2 = .ok (.lst V2) S2 := by
    rw [hF4, hV2]
    have y : ∀ E, fYes fuel E S2 = .ok true S2 := fun _ => rfl
    obtain ⟨s, hs⟩ : ∃ s : Str, s = "1" := ⟨_, rfl⟩
    rw [← hs] at q4 ⊢
    simp [fLc, fIt, wipeE, lcL, y, le3__law_right, q1, q2, q3, q4]
  obtain ⟨F2, hF2⟩ : ∃ F, F = fLc (fLift rng1? (fCons (fVar 8) fNil)) (gN 14) fYes le2__law_right [14] := ⟨_, rfl⟩
  have dr : F2 fuel [some (.fz (.hd 0)), some (.fz (.int n)), some (.fz (.int t)), some (.fz (.lst L)), a4, a5, some (.fz (.int lo)), some (.fz (.int r)), some (.fz (.int a)), some (.fz (.tup X)), x10, x11, x12, x13, none, none, none, none] S1 = .ok (.lst ds) S2 := by
    rw [hF2]
    simp [fLc, rr, rlen, wipeE, dw]
  have fw := fw x8
  obtain ⟨F1, hF1⟩ : ∃ F, F = fOp gIx (fLc (fLift enum? (fCons (fVar 3) fNil)) (gT (gConss (gN 14) (gConss (gN 15) gNils))) lt1__law_right le1__law_right [14, 15]) (fC (.int 0)) := ⟨_, rfl⟩
  rw [← hL, ← hF1] at fw
  obtain ⟨F5, hF5⟩ : ∃ F : FE, F = fLst (fCons (fVar 9) (fCons (fUn gRev (fRd 9)) (fCons (fCB gList (fCons (fRd 9) fNil)) (fCons (fSl (fRd 9) (foS (fC (.int 1))) foN) (fCons (fOp gAdd (fRd 9) (fTup (fCons (fC (.int 0)) fNil))) (fCons (fVar 10) (fCons (fC .non) (fCons (fTup fNil) (fCons (fC (.int 5)) (fCons (fOp gRepT (fTup (fCons (fC (.int 1)) fNil)) (fRd 7)) fNil)))))))))) := ⟨_, rfl⟩
  have e5 : ∀ x11, F5 fuel [some (.fz (.hd 0)), some (.fz (.int n)), some (.fz (.int t)), some (.fz (.lst L)), a4, a5, some (.fz (.int lo)), some (.fz (.int r)), some (.fz (.int a)), some (.fz (.tup X)), some (.fz (.tup ds)), x11, x12, x13, none, none, none, none] S2 = .ok (.lst V1) S2 := fun x11 => by
    rw [hF5, hV1]
    simp [r1, ad, gli]
  unfold fb2__law_right
  rw [← hF1, ← hF2, ← hF4, ← hF5]
  simp [rl, fw, pt, dr, dt, e5, e2, av, fIt, rv, gl, at1, is1]
end LW

end

section
set_option autoImplicit false
set_option autoImplicit false
namespace LW
open PySem PySem.Spec PyProof.Rows L2 DL NT
theorem rr_loop {n t J : Nat} {a4 a5 : Option Sl} (h1 : 1 ≤ n) (h2 : n ≤ 500) (t1 : 2 ≤ t) (t2 : t ≤ 12) (j1 : 1 ≤ J) (jn : J ≤ n) (jf : Full n t J) : ∀ (k : Nat) (lo : Int) (S : Store) (x6 x7 x8 x9 x10 x11 x12 x13 : Option Sl), Cup S → ∃ S' y6 y7 y8 y9 y10 y11 y12 y13, Cup S' ∧
    forL (gN 6) (fb2__law_right fuel) ((rngI lo 1 k).map D.int) [some (.fz (.hd 0)), some (.fz (.int n)), some (.fz (.int t)), some (.fz (.lst (SOs n t J))), a4, a5, x6, x7, x8, x9, x10, x11, x12, x13, none, none, none, none] S =
      .nx [some (.fz (.hd 0)), some (.fz (.int n)), some (.fz (.int t)), some (.fz (.lst (SOs n t J))), a4, a5, y6, y7, y8, y9, y10, y11, y12, y13, none, none, none, none] S'
  | 0, lo, S, x6, x7, x8, x9, x10, x11, x12, x13, hc => ⟨S, x6, x7, x8, x9, x10, x11, x12, x13, hc, by simp [rngI]⟩
  | k + 1, lo, S, x6, x7, x8, x9, x10, x11, x12, x13, hc => by
    obtain ⟨S1, y7, y8, y9, y10, y11, y12, y13, c1, e⟩ := rr_step (S := S) (lo := lo) (a4 := a4) (a5 := a5) (x7 := x7) (x8 := x8) (x9 := x9) (x10 := x10) (x11 := x11) (x12 := x12) (x13 := x13) hc h1 h2 t1 t2 j1 jn jf
    obtain ⟨S', z6, z7, z8, z9, z10, z11, z12, z13, c', ih⟩ := rr_loop (a4 := a4) (a5 := a5) h1 h2 t1 t2 j1 jn jf k (lo + 1) S1 (some (.fz (.int lo))) y7 y8 y9 y10 y11 y12 y13 c1
    refine ⟨S', z6, z7, z8, z9, z10, z11, z12, z13, c', ?_⟩
    rw [rngI_succ, List.map_cons, for_nx rfl e]
    exact ih
theorem law_right {S : Store} {n t : Nat} (hc : Cup S) (h1 : 1 ≤ n) (h2 : n ≤ 500) (t1 : 2 ≤ t) (t2 : t ≤ 12) : ∃ S', Cup S' ∧ m__law_right [.hd 0, .int n, .int t] S = .ok (.bl true) S' := by
  obtain ⟨J, j1, jn, jf, jl⟩ := exJ (n := n) (t := t) h1 (by omega)
  have ls := fun S => law_sums (S := S) h1 h2 t1 t2 j1 jn jf jl
  obtain ⟨x, S1, rl, c1, p0, p1⟩ := law_roll hc (k := 20) (by decide) (by decide)
  obtain ⟨m, hm⟩ : ∃ m : Nat, 1 + x = m := ⟨(1 + x).toNat, by omega⟩
  have lt := fun S => least_terms (S := S) h1 h2 t1 t2 j1 jf jl
  have rs := fun S => rests_of_sums (S := S) (n := n) (t := t) (j := m) h1 h2 t1 t2 (by omega) (by omega)
  have same : J ≤ m → SO n t m = SO n t J := fun h => SO_ext fun y => by
    constructor
    · intro z
      have := In_res h1 z
      obtain ⟨r, rfl⟩ : ∃ r : Nat, y = r := ⟨y.toNat, by omega⟩
      exact jf r (by omega)
    · intro z; exact In_le h1 (by omega) h z
  obtain ⟨i, rfl⟩ : ∃ i, J = i + 1 := ⟨J - 1, by omega⟩
  have la : gIx (.lst (SOs n t (i + 1))) (.int (-1)) = some (.lst ((SO n t (i + 1)).map D.int)) := by rw [SOs_succ]; exact ix_last
  have sl : (SOs n t (i + 1)).length = i + 1 := by unfold SOs; rw [List.length_map, List.length_range]
  have gl : gLen [.lst (SOs n t (i + 1))] = some (.int ((i + 1 : Nat) : Int)) := by
    show some (D.int ((SOs n t (i + 1)).length : Nat)) = _
    rw [sl]
  have du : ∃ l : List Int, fIf (fBool (fOp gLe (fRd 4) (fCB gLen (fCons (fRd 3) fNil)))) (fOp gIx (fRd 3) (fOp gSub (fRd 4) (fC (.int 1)))) (fOp gIx (fRd 3) (fUn gNeg (fC (.int 1)))) fuel
      [some (.fz (.hd 0)), some (.fz (.int n)), some (.fz (.int t)), some (.fz (.lst (SOs n t (i + 1)))), some (.fz (.int m)), none, none, none, none, none, none, none, none, none, none, none, none, none] S1 = .ok (.lst (l.map D.int)) S1 ∧ SO n t m = l := by
    by_cases c : m ≤ i + 1
    · have gi : gIx (.lst (SOs n t (i + 1))) (.int ((m : Int) - 1)) = some (.lst ((SO n t m).map D.int)) := by
        have e : ((m : Int) - 1) = ((m - 1 : Nat) : Int) := by omega
        rw [e]
        refine ix_nat ?_
        unfold SOs
        rw [List.getElem?_map, List.getElem?_range (by omega)]
        have : m - 1 + 1 = m := by omega
        simp [this]
      refine ⟨SO n t m, ?_, rfl⟩
      have c' : (m : Int) ≤ ((i + 1 : Nat) : Int) := by omega
      obtain ⟨J, hJ⟩ : ∃ J : Int, J = ((i + 1 : Nat) : Int) := ⟨_, rfl⟩
      rw [← hJ] at gl c'
      obtain ⟨L, hL⟩ : ∃ L, L = SOs n t (i + 1) := ⟨_, rfl⟩
      rw [← hL] at gl gi ⊢
      simp [gl, c', gi]
    · refine ⟨SO n t (i + 1), ?_, same (by omega)⟩
      have c' : ¬ (m : Int) ≤ ((i + 1 : Nat) : Int) := by omega
      obtain ⟨J, hJ⟩ : ∃ J : Int, J = ((i + 1 : Nat) : Int) := ⟨_, rfl⟩
      rw [← hJ] at gl c'
      obtain ⟨L, hL⟩ : ∃ L, L = SOs n t (i + 1) := ⟨_, rfl⟩
      rw [← hL] at gl la ⊢
      simp [gl, c', la]
  obtain ⟨l, du, sl2⟩ := du
  rw [sl2] at rs
  have ll : l.length ≤ 1000000 := by rw [← sl2, SO_len]; have := SS_len (t := t) (j := m) h1; omega
  have lk : ∀ S, m__law_like [.lst [.int ((i + 1 : Nat) : Int), .tup (l.map D.int)], .lst [.int ((i + 1 : Nat) : Int), .tup (l.map D.int)]] S = .ok (.bl true) S := fun S => like (by
    simp only [plainD, List.all_cons, List.all_nil, List.length_map, plain_ints]
    simp [ll])
  obtain ⟨S', y6, y7, y8, y9, y10, y11, y12, y13, c', lo⟩ := rr_loop (a4 := some (.fz (.int m))) (a5 := some (.fz (.lst (l.map D.int)))) h1 h2 t1 t2 j1 jn jf 4 0 S1 none none none none none none none none c1
  have r4 : rng1? [.int 4] = some ((rngI 0 1 4).map D.int) := by rw [rng1_ok (by decide) (by decide)]; rfl
  obtain ⟨R, hR⟩ : ∃ R, R = (rngI 0 1 4).map D.int := ⟨_, rfl⟩
  rw [← hR] at r4 lo
  obtain ⟨Q, hQ⟩ : ∃ Q, Q = l.map D.int := ⟨_, rfl⟩
  rw [← hQ] at du rs lk lo
  obtain ⟨J, hJ⟩ : ∃ J : Int, J = ((i + 1 : Nat) : Int) := ⟨_, rfl⟩
  rw [← hJ] at gl lt lk
  obtain ⟨L, hL⟩ : ∃ L, L = SOs n t (i + 1) := ⟨_, rfl⟩
  rw [← hL] at gl du ls lo
  have gt : gTuple [.lst Q] = some (.tup Q) := rfl
  obtain ⟨F, hF⟩ : ∃ F : FE, F = fIf (fBool (fOp gLe (fRd 4) (fCB gLen (fCons (fRd 3) fNil)))) (fOp gIx (fRd 3) (fOp gSub (fRd 4) (fC (.int 1)))) (fOp gIx (fRd 3) (fUn gNeg (fC (.int 1)))) := ⟨_, rfl⟩
  rw [← hF] at du
  refine ⟨S', c', ?_⟩
  unfold m__law_right f__law_right
  rw [← hF]
  simp [N__law_right, startE, ls, rl, hm, du, gl, lt, rs, gt, lk, r4, lo]
/-! ### ways -/
theorem W_one {n t : Nat} {y : Int} (hn : 0 < n) (y0 : 0 ≤ y) (y1 : y < n) : W n t 1 y = ((PL n t).count y : Nat) := by
  show (sm (PL n t) fun x => if (y - x) % (n : Int) = 0 then 1 else 0) = _
  have : ∀ l : List Int, (∀ x ∈ l, 0 ≤ x ∧ x < n) → (sm l fun x => if (y - x) % (n : Int) = 0 then 1 else 0) = (l.count y : Nat) := by
    intro l
    induction l with
    | nil => intro _; rfl
    | cons x l ih =>
      intro h
      obtain ⟨x0, x1⟩ := h x (List.mem_cons_self ..)
      simp only [sm]
      rw [ih fun z hz => h z (List.mem_cons_of_mem _ hz), List.count_cons]
      by_cases c : x = y
      · subst c; rw [if_pos (by rw [Int.sub_self]; rfl)]; simp; omega
      · rw [if_neg]
        · simp [c]
        · intro z
          have := Int.emod_emod_of_dvd (y - x) (Int.dvd_refl (n : Int))
          have d : (n : Int) ∣ y - x := Int.dvd_of_emod_eq_zero z
          obtain ⟨k, hk⟩ := d
          have : k = 0 := by
            rcases Int.lt_trichotomy k 0 with a | a | a
            · exfalso
              have : (n : Int) * k ≤ n * (-1) := Int.mul_le_mul_of_nonneg_left (by omega) (by omega)
              omega
            · exact a
            · exfalso
              have : (n : Int) * 1 ≤ n * k := Int.mul_le_mul_of_nonneg_left (by omega) (by omega)
              omega
          rw [this] at hk
          omega
  refine this _ fun x hx => ?_
  obtain ⟨k, hk, rfl⟩ := List.mem_map.mp hx
  have := pm_lt (t := t) (k := k) (show 1 ≤ n by omega)
  omega
theorem W_sum {n t : Nat} (hn : 0 < n) : ∀ m, (sm (List.range n) fun r => W n t m r) = (n : Int) ^ m
  | 0 => by
    have : (sm (List.range n) fun r => W n t 0 r) = sm (List.range n) fun r : Nat => if (r : Int) = 0 then 1 else 0 := rfl
    rw [this, sm_pick (g := fun _ => 1) List.nodup_range, if_pos ⟨by omega, List.mem_range.mpr (by omega)⟩]; simp
  | m + 1 => by
    have e : (sm (List.range n) fun r => W n t (m + 1) r) = sm (PL n t) fun x => sm (List.range n) fun r => W n t m (((r : Int) - x) % (n : Int)) := by
      rw [← sm_swap]; rfl
    rw [e]
    have sh : ∀ x : Int, (sm (List.range n) fun r => W n t m (((r : Int) - x) % (n : Int))) = (n : Int) ^ m := fun x => by
      have b0 : ∀ r : Nat, 0 ≤ ((r : Int) - x) % (n : Int) := fun r => Int.emod_nonneg _ (by omega)
      have b1 : ∀ r : Nat, ((r : Int) - x) % (n : Int) < n := fun r => Int.emod_lt_of_pos _ (by omega)
      have p : ((List.range n).map fun r : Nat => (((r : Int) - x) % (n : Int)).toNat).Perm (List.range n) := perm_self List.nodup_range (fun r _ => List.mem_range.mpr (by have := b0 r; have := b1 r; omega)) fun r hr s hs e => by
        have hr := List.mem_range.mp hr
        have hs := List.mem_range.mp hs
        have e : ((r : Int) - x) % (n : Int) = ((s : Int) - x) % (n : Int) := by have := b0 r; have := b0 s; omega
        have f := congrArg (fun z => (z + x) % (n : Int)) e
        simp only [Int.emod_add_emod, Int.sub_add_cancel] at f
        rw [Int.emod_eq_of_lt (by omega) (by omega), Int.emod_eq_of_lt (by omega) (by omega)] at f
        omega
      have h := W_sum (t := t) hn m
      have q := sm_perm (f := fun r : Nat => W n t m r) p
      rw [← h, ← q, sm_map]
      refine sm_congr fun r _ => ?_
      have := b0 r
      have e : (((((r : Int) - x) % (n : Int)).toNat : Nat) : Int) = ((r : Int) - x) % (n : Int) := by omega
      rw [e]
    have : (sm (PL n t) fun x => sm (List.range n) fun r => W n t m (((r : Int) - x) % (n : Int))) = sm (PL n t) fun _ => (n : Int) ^ m := sm_congr fun x _ => sh x
    rw [this, sm_const, PL_len, Int.pow_succ]
theorem sum_sm {α : Type} (f : α → Int) : ∀ l : List α, (l.map f).sum = sm l f
  | [] => rfl
  | a :: l => by rw [List.map_cons, List.sum_cons, sum_sm f l]; rfl
theorem gsum_sm {α : Type} (f : α → Int) (l : List α) : gSum [.lst (l.map fun a => D.int (f a))] = some (.int (sm l f)) := by
  have : (l.map fun a => D.int (f a)) = (l.map f).map D.int := by rw [List.map_map]; rfl
  show (ints? _).map _ = _
  rw [this, ints?_map, Option.map_some, sum_sm]
end LW

end

section
set_option autoImplicit false
set_option autoImplicit false
namespace LW
open PySem PySem.Spec PyProof.Rows L2 DL NT
theorem lc_ok {it : FA} {g : Tgt} {c : FT} {e : FE} {vs : List Nat} {n : Nat} {E : DL.Env} {S S' : Store} {ds L : List D} (h1 : it n E S = .ok ds S) (h2 : ds.length ≤ 1000000) (h3 : lcL g (c n) (e n) ds (wipeE E vs) S = .ok L S') :
    fLc it g c e vs n E S = .ok (.lst L) S' := by
  unfold fLc
  rw [h1, e_bind_ok, if_pos h2, h3]
  rfl
theorem PL_ints {n t : Nat} : (PL n t).map D.int = (PL n t).map fun k => D.int k := rfl
theorem cut40 {l : List Int} (h : l.length ≤ 40) : DL.cutD (l.map D.int) none (some 40) = l.map D.int := by
  unfold DL.cutD
  have e0 : HT.sIx (l.map D.int).length 0 none = 0 := rfl
  have e1 : HT.sIx (l.map D.int).length (l.map D.int).length (some 40) = min 40 (l.map D.int).length := HT.sIx_nat _ _ 40
  rw [e0, e1, List.drop_zero, List.take_of_length_le]
  rw [List.length_map]; omega
theorem cut_ints {l : List Int} {a b : Option Int} : ∃ m : List Int, DL.cutD (l.map D.int) a b = m.map D.int ∧ ∀ x ∈ m, x ∈ l := by
  unfold DL.cutD
  refine ⟨(l.drop (HT.sIx (l.map D.int).length 0 a)).take (HT.sIx (l.map D.int).length (l.map D.int).length b - HT.sIx (l.map D.int).length 0 a), ?_, fun x hx => List.mem_of_mem_drop (List.mem_of_mem_take hx)⟩
  rw [← List.map_drop, ← List.map_take]
theorem wp_loop {S : Store} {n : Nat} {a0 a2 a3 a4 a5 a6 a9 a10 : Option Sl} (hn : n < 2 ^ 60) : ∀ (k : Nat) (lo f : Int) (x8 : Option Sl), ∃ y8,
    forL (gN 8) (fb1__law_ways_right fuel) ((rngI lo 1 k).map D.int) [a0, some (.fz (.int n)), a2, a3, a4, a5, a6, some (.fz (.int f)), x8, a9, a10] S =
      .nx [a0, some (.fz (.int n)), a2, a3, a4, a5, a6, some (.fz (.int (f * (n : Int) ^ k))), y8, a9, a10] S
  | 0, lo, f, x8 => ⟨x8, by simp [rngI]⟩
  | k + 1, lo, f, x8 => by
    obtain ⟨y8, ih⟩ := wp_loop (S := S) (a0 := a0) (a2 := a2) (a3 := a3) (a4 := a4) (a5 := a5) (a6 := a6) (a9 := a9) (a10 := a10) hn k (lo + 1) (f * n) (some (.fz (.int lo)))
    have mk : mulOk f n = true := mulOk_r (by omega)
    have ml : gMul (.int f) (.int n) = some (.int (f * n)) := by
      show (if _ then _ else _) = _
      rw [if_pos mk]
    have ep : f * (n : Int) ^ (k + 1) = f * n * (n : Int) ^ k := by rw [Int.pow_succ, Int.mul_comm ((n : Int) ^ k), Int.mul_assoc]
    rw [ep]
    refine ⟨y8, ?_⟩
    rw [rngI_succ, List.map_cons, for_nx (E1 := [a0, some (.fz (.int n)), a2, a3, a4, a5, a6, some (.fz (.int f)), some (.fz (.int lo)), a9, a10])
      (E2 := [a0, some (.fz (.int n)), a2, a3, a4, a5, a6, some (.fz (.int (f * n))), some (.fz (.int lo)), a9, a10]) (S2 := S) rfl (by simp [fb1__law_ways_right, ml])]
    exact ih
theorem law_ways_right {S : Store} {n t : Nat} (hc : Cup S) (h1 : 1 ≤ n) (h2 : n ≤ 500) (t1 : 2 ≤ t) (t2 : t ≤ 12) : ∃ S', Cup S' ∧ m__law_ways_right [.hd 0, .int n, .int t] S = .ok (.bl true) S' := by
  have hn : 0 < n := by omega
  have r := rng1_ok (j := n) (by omega) (by omega)
  have e : ((n : Int)).toNat = n := by omega
  rw [e, rng_nat] at r
  have hlen : ((List.range n).map fun k : Nat => D.int k).length ≤ 1000000 := by simp; omega
  have pres : ∀ x ∈ PL n t, 0 ≤ x ∧ x < n := fun x hx => by
    obtain ⟨k, hk, rfl⟩ := List.mem_map.mp hx
    have := pm_lt (t := t) (k := k) h1
    omega
  -- the powers
  have l := lcL_yes (g := gN 4) (e := le1__law_ways_right fuel) (E := [some (.fz (.hd 0)), some (.fz (.int n)), some (.fz (.int t)), none, none, none, none, none, none, none, none]) (S := S) (n := fuel) (fun k : Nat => D.int k) (fun k : Nat => D.int (pm k t n : Nat)) (List.range n) fun k hk => by
    have hk := List.mem_range.mp hk
    have p : ∀ S, m__law_power [.int k, .int t, .int n] S = .ok (.int (pm k t n : Nat)) S := fun S => by
      rw [law_power (by omega) (by have := big60 (show n < 2 ^ 60 by omega); omega) (big60 (by omega))]
      unfold pm; push_cast; rfl
    exact ⟨[some (.fz (.hd 0)), some (.fz (.int n)), some (.fz (.int t)), none, some (.fz (.int k)), none, none, none, none, none, none], rfl, by simp [le1__law_ways_right, p]⟩
  have hm : (List.range n).map (fun k : Nat => D.int (pm k t n : Nat)) = (PL n t).map D.int := by unfold PL; rw [List.map_map]; rfl
  rw [hm] at l
  obtain ⟨x, S1, rl, c1, p0, p1⟩ := law_roll hc (k := n) (by omega) (by omega)
  obtain ⟨y, S2, rl2, c2, q0, q1⟩ := law_roll c1 (k := 5) (by decide) (by decide)
  obtain ⟨m, hmm⟩ : ∃ m : Nat, y = m := ⟨y.toNat, by omega⟩
  subst hmm
  have md : ∀ x : Int, gMod (.int x) (.int n) = some (.int (x % n)) := fun x => o_mod (by omega)
  have b0 : ∀ k : Int, 0 ≤ (x - k) % (n : Int) := fun k => Int.emod_nonneg _ (by omega)
  have b1 : ∀ k : Int, (x - k) % (n : Int) < n := fun k => Int.emod_lt_of_pos _ (by omega)
  have cnt := fun (k : Int) => o_count (ns := PL n t) (k := k)
  -- for two
  have l2 := fun (x5 : Option Sl) => lcL_yes (g := gN 9) (e := le2__law_ways_right fuel) (E := [some (.fz (.hd 0)), some (.fz (.int n)), some (.fz (.int t)), some (.fz (.lst ((PL n t).map D.int))), some (.fz (.int x)), x5, none, none, none, none, none]) (S := S1) (n := fuel) (fun k : Int => D.int k) (fun k : Int => D.int ((PL n t).count ((x - k) % (n : Int)) : Nat)) (PL n t) fun k hk => by
    refine ⟨[some (.fz (.hd 0)), some (.fz (.int n)), some (.fz (.int t)), some (.fz (.lst ((PL n t).map D.int))), some (.fz (.int x)), x5, none, none, none, some (.fz (.int k)), none], rfl, ?_⟩
    have cnt := cnt ((x - k) % (n : Int))
    obtain ⟨P, hP⟩ : ∃ P, P = (PL n t).map D.int := ⟨_, rfl⟩
    rw [← hP] at cnt ⊢
    simp [le2__law_ways_right, gInt, md, cnt]
  have l2 := l2 none
  have s2 := gsum_sm (fun k : Int => (((PL n t).count ((x - k) % (n : Int)) : Nat) : Int)) (PL n t)
  have w2 : (sm (PL n t) fun k : Int => (((PL n t).count ((x - k) % (n : Int)) : Nat) : Int)) = W n t 2 x := by
    show _ = sm (PL n t) fun k => W n t 1 ((x - k) % (n : Int))
    exact sm_congr fun k _ => (W_one hn (b0 k) (b1 k)).symm
  rw [w2] at s2
  have c2' := fun S => count_power_sums (S := S) (n := n) (t := t) (j := 2) (x := x) h1 h2 t1 t2 (by decide) (by decide) p0 p1
  have c1' := fun S => count_power_sums (S := S) (n := n) (t := t) (j := 1) (x := x) h1 h2 t1 t2 (by decide) (by decide) p0 p1
  have c2' : ∀ S, m_count_power_sums [.int n, .int t, .int 2, .int x] S = .ok (.int (W n t 2 x)) S := c2'
  have c1' : ∀ S, m_count_power_sums [.int n, .int t, .int 1, .int x] S = .ok (.int (W n t 1 x)) S := c1'
  have lk2 : ∀ S, m__law_like [.lst [.int (W n t 2 x), .int (W n t 1 x)], .lst [.int (W n t 2 x), .int (W n t 1 x)]] S = .ok (.bl true) S := fun S => like rfl
  -- one fewer
  obtain ⟨ns, hns, hsub⟩ := cut_ints (l := PS n t) (a := none) (b := some 40)
  have l3 := fun (x5 : Option Sl) => lcL_yes (g := gN 10) (e := le3__law_ways_right fuel) (E := [some (.fz (.hd 0)), some (.fz (.int n)), some (.fz (.int t)), some (.fz (.lst ((PL n t).map D.int))), some (.fz (.int x)), x5, some (.fz (.int (2 + (m : Int)))), none, none, none, none]) (S := S2) (n := fuel) (fun k : Int => D.int k) (fun k : Int => D.int (W n t (m + 1) ((x - k) % (n : Int)) * ((PL n t).count k : Nat))) ns fun k hk => by
    refine ⟨[some (.fz (.hd 0)), some (.fz (.int n)), some (.fz (.int t)), some (.fz (.lst ((PL n t).map D.int))), some (.fz (.int x)), x5, some (.fz (.int (2 + (m : Int)))), none, none, none, some (.fz (.int k))], rfl, ?_⟩
    have cnt := cnt k
    have cp := fun S => count_power_sums (S := S) (n := n) (t := t) (j := m + 1) (x := (x - k) % (n : Int)) h1 h2 t1 t2 (by omega) (by omega) (b0 k) (b1 k)
    have em : (2 + (m : Int)) - 1 = ((m + 1 : Nat) : Int) := by omega
    have lc := List.count_le_length (a := k) (l := PL n t)
    rw [PL_len] at lc
    have ml : gMul (.int (W n t (m + 1) ((x - k) % (n : Int)))) (.int ((PL n t).count k : Nat)) = some (.int (W n t (m + 1) ((x - k) % (n : Int)) * ((PL n t).count k : Nat))) := by
      show (if _ then _ else _) = _
      rw [if_pos (mulOk_r (by omega))]
    obtain ⟨P, hP⟩ : ∃ P, P = (PL n t).map D.int := ⟨_, rfl⟩
    rw [← hP] at cnt ⊢
    obtain ⟨c, hc⟩ : ∃ c, c = (PL n t).count k := ⟨_, rfl⟩
    rw [← hc] at cnt ml ⊢
    obtain ⟨w, hw⟩ : ∃ w, w = W n t (m + 1) ((x - k) % (n : Int)) := ⟨_, rfl⟩
    rw [← hw] at cp ml ⊢
    obtain ⟨M, hM⟩ : ∃ M : Int, M = ((m + 1 : Nat) : Int) := ⟨_, rfl⟩
    rw [← hM] at em cp
    simp [le3__law_ways_right, gInt, md, em, cp, cnt, ml]
  have s3 := gsum_sm (fun k : Int => W n t (m + 1) ((x - k) % (n : Int)) * ((PL n t).count k : Nat)) ns
  have gs : gSetS (.lst ((PL n t).map D.int)) = some (.lst ((PS n t).map D.int)) := by
    show (if ((PL n t).map D.int).length ≤ 4000 then _ else _) = _
    rw [List.length_map, if_pos (by rw [PL_len]; omega), ints?_map]
    rfl
  have gn : gSetN (.lst ((PL n t).map D.int)) = some (.int ((PS n t).length : Nat)) := by
    show (if ((PL n t).map D.int).length ≤ 4000 then _ else _) = _
    rw [List.length_map, if_pos (by rw [PL_len]; omega), ints?_map]
    rfl
  have cm := fun S => count_power_sums (S := S) (n := n) (t := t) (j := 2 + m) (x := x) h1 h2 t1 t2 (by omega) (by omega) p0 p1
  have w3 : (PS n t).length ≤ 40 → (sm ns fun k => W n t (m + 1) ((x - k) % (n : Int)) * ((PL n t).count k : Nat)) = W n t (2 + m) x := fun h => by
    have : ns = PS n t := by
      have c := cut40 h
      rw [hns] at c
      have inj : ∀ a b : List Int, a.map D.int = b.map D.int → a = b := fun a b e => by
        have := congrArg (fun l => l.map fun d : D => match d with | .int i => i | _ => 0) e
        simpa [List.map_map, Function.comp_def] using this
      exact inj _ _ c
    rw [this]
    refine (sm_count (h := fun k => W n t (m + 1) ((x - k) % (n : Int))) (xs := PL n t) ((setI_asc _).imp fun h => by omega) fun y hy => mem_setI.mpr hy).trans ?_
    have : 2 + m = (m + 1) + 1 := by omega
    rw [this]; rfl
  have nsl : ns.length ≤ 1000000 := by
    have : ns.length = (DL.cutD ((PS n t).map D.int) none (some 40)).length := by rw [hns, List.length_map]
    have := cut_len (l := (PS n t).map D.int) (a := none) (b := some 40)
    rw [List.length_map] at this
    have := PS_len (t := t) h1
    omega
  -- the whole
  obtain ⟨y8, wl⟩ := wp_loop (S := S2) (n := n) (a0 := some (.fz (.hd 0))) (a2 := some (.fz (.int t))) (a3 := some (.fz (.lst ((PL n t).map D.int)))) (a4 := some (.fz (.int x))) (a5 := some (.fz (.int (sm ns fun k => W n t (m + 1) ((x - k) % (n : Int)) * ((PL n t).count k : Nat))))) (a6 := some (.fz (.int (2 + (m : Int))))) (a9 := none) (a10 := none) (by omega) (2 + m) 0 1 none
  rw [Int.one_mul] at wl
  have rm := rng1_ok (j := 2 + (m : Int)) (by omega) (by omega)
  have em : (2 + (m : Int)).toNat = 2 + m := by omega
  rw [em] at rm
  have l4 := lcL_yes (g := gN 10) (e := le4__law_ways_right fuel) (E := [some (.fz (.hd 0)), some (.fz (.int n)), some (.fz (.int t)), some (.fz (.lst ((PL n t).map D.int))), some (.fz (.int x)), some (.fz (.int (sm ns fun k => W n t (m + 1) ((x - k) % (n : Int)) * ((PL n t).count k : Nat)))), some (.fz (.int (2 + (m : Int)))), some (.fz (.int ((n : Int) ^ (2 + m)))), y8, none, none]) (S := S2) (n := fuel) (fun k : Nat => D.int k) (fun k : Nat => D.int (W n t (2 + m) k)) (List.range n) fun k hk => by
    have hk := List.mem_range.mp hk
    have ck := fun S => count_power_sums (S := S) (n := n) (t := t) (j := 2 + m) (x := (k : Nat)) h1 h2 t1 t2 (by omega) (by omega) (by omega) (by omega)
    refine ⟨[some (.fz (.hd 0)), some (.fz (.int n)), some (.fz (.int t)), some (.fz (.lst ((PL n t).map D.int))), some (.fz (.int x)), some (.fz (.int (sm ns fun k => W n t (m + 1) ((x - k) % (n : Int)) * ((PL n t).count k : Nat)))), some (.fz (.int (2 + (m : Int)))), some (.fz (.int ((n : Int) ^ (2 + m)))), y8, none, some (.fz (.int k))], rfl, ?_⟩
    have e2 : ((2 + m : Nat) : Int) = 2 + (m : Int) := by omega
    rw [e2] at ck
    simp [le4__law_ways_right, ck]
  have s4 := gsum_sm (fun k : Nat => W n t (2 + m) k) (List.range n)
  rw [W_sum hn] at s4
  have e2 : ((2 + m : Nat) : Int) = 2 + (m : Int) := by omega
  rw [e2] at cm
  -- all together
  have wo := W_one (t := t) hn p0 p1
  have cntx := cnt x
  rw [← wo] at cntx
  obtain ⟨P, hP⟩ : ∃ P, P = (PL n t).map D.int := ⟨_, rfl⟩
  obtain ⟨Q, hQ⟩ : ∃ P, P = (PS n t).map D.int := ⟨_, rfl⟩
  rw [← hQ] at gs hns
  obtain ⟨R, hR⟩ : ∃ R, R = (List.range n).map fun k : Nat => D.int k := ⟨_, rfl⟩
  obtain ⟨L2, hL2⟩ : ∃ R, R = (PL n t).map fun k : Int => D.int ((PL n t).count ((x - k) % (n : Int)) : Nat) := ⟨_, rfl⟩
  have ln2 : L2.length ≤ 1000000 := by rw [hL2, List.length_map, PL_len]; omega
  have lnP : P.length ≤ 1000000 := by rw [hP, List.length_map, PL_len]; omega
  rw [← hL2] at l2 s2
  obtain ⟨L3, hL3⟩ : ∃ R, R = ns.map fun k : Int => D.int (W n t (m + 1) ((x - k) % (n : Int)) * ((PL n t).count k : Nat)) := ⟨_, rfl⟩
  rw [← hL3] at l3 s3
  obtain ⟨N3, hN3⟩ : ∃ R, R = ns.map D.int := ⟨_, rfl⟩
  have lnN : N3.length ≤ 1000000 := by rw [hN3, List.length_map]; exact nsl
  obtain ⟨L4, hL4⟩ : ∃ R, R = (List.range n).map fun k : Nat => D.int (W n t (2 + m) k) := ⟨_, rfl⟩
  rw [← hL4] at l4 s4
  have l3 : ∀ x5, lcL (gN 10) (fYes fuel) (le3__law_ways_right fuel) N3 [some (.fz (.hd 0)), some (.fz (.int n)), some (.fz (.int t)), some (.fz (.lst P)), some (.fz (.int x)), x5, some (.fz (.int (2 + (m : Int)))), none, none, none, none] S2 = .ok L3 S2 := by
    rw [hN3, hP]; exact l3
  have l2 : lcL (gN 9) (fYes fuel) (le2__law_ways_right fuel) P [some (.fz (.hd 0)), some (.fz (.int n)), some (.fz (.int t)), some (.fz (.lst P)), some (.fz (.int x)), none, none, none, none, none, none] S1 = .ok L2 S1 := by
    rw [hP]; exact l2
  rw [← hN3] at hns
  rw [← hP] at l gs gn cntx wl l4
  rw [← hR] at l r hlen l4
  obtain ⟨w, hw⟩ : ∃ w, w = sm ns fun k => W n t (m + 1) ((x - k) % (n : Int)) * ((PL n t).count k : Nat) := ⟨_, rfl⟩
  rw [← hw] at s3 w3 wl l4
  obtain ⟨N, hN⟩ : ∃ N, N = (PS n t).length := ⟨_, rfl⟩
  rw [← hN] at gn w3
  obtain ⟨U, hU⟩ : ∃ U, U = W n t 1 x := ⟨_, rfl⟩
  obtain ⟨V, hV⟩ : ∃ U, U = W n t 2 x := ⟨_, rfl⟩
  obtain ⟨Z, hZ⟩ : ∃ U, U = W n t (2 + m) x := ⟨_, rfl⟩
  have lkw : ∀ S, m__law_like [.int Z, .int Z] S = .ok (.bl true) S := fun S => like rfl
  obtain ⟨pw, hpw⟩ : ∃ U, U = (n : Int) ^ (2 + m) := ⟨_, rfl⟩
  rw [← hpw] at wl l4 s4
  rw [← hU] at c1' lk2 cntx
  rw [← hV] at c2' lk2 s2
  rw [← hZ] at cm w3
  obtain ⟨T, hT⟩ : ∃ T, T = (rngI 0 1 (2 + m)).map D.int := ⟨_, rfl⟩
  rw [← hT] at rm wl
  have hl4 : L4.length ≤ 1000000 := by rw [hL4, List.length_map, List.length_range]; omega
  refine ⟨S2, c2, ?_⟩
  have st0 : (fSet 3 (fLc (fLift rng1? (fCons (fVar 1) fNil)) (gN 4) fYes (le1__law_ways_right) [4])) fuel [some (.fz (.hd 0)), some (.fz (.int n)), some (.fz (.int t)), none, none, none, none, none, none, none, none] S = .nx [some (.fz (.hd 0)), some (.fz (.int n)), some (.fz (.int t)), some (.fz (.lst P)), none, none, none, none, none, none, none] S := by
    have lc := lc_ok (c := fYes) (vs := [4]) (e := le1__law_ways_right) (it := fLift rng1? (fCons (fVar 1) fNil)) (g := gN 4) (n := fuel) (E := [some (.fz (.hd 0)), some (.fz (.int n)), some (.fz (.int t)), none, none, none, none, none, none, none, none]) (S := S) (by simp [r]) hlen l
    simp [lc]
  have st1 : (fSet 4 (fCall m__law_roll (fCons (fVar 0) (fCons (fVar 1) fNil)))) fuel [some (.fz (.hd 0)), some (.fz (.int n)), some (.fz (.int t)), some (.fz (.lst P)), none, none, none, none, none, none, none] S = .nx [some (.fz (.hd 0)), some (.fz (.int n)), some (.fz (.int t)), some (.fz (.lst P)), some (.fz (.int x)), none, none, none, none, none, none] S1 := by
    simp [rl]
  have st2 : (fSet 5 (fCB gSum (fCons (fLc (fIt (fVar 3)) (gN 9) fYes (le2__law_ways_right) [9]) fNil))) fuel [some (.fz (.hd 0)), some (.fz (.int n)), some (.fz (.int t)), some (.fz (.lst P)), some (.fz (.int x)), none, none, none, none, none, none] S1 = .nx [some (.fz (.hd 0)), some (.fz (.int n)), some (.fz (.int t)), some (.fz (.lst P)), some (.fz (.int x)), some (.fz (.int V)), none, none, none, none, none] S1 := by
    simp [fLc, fIt, lnP, wipeE, l2, s2]
  have st3 : (fIfS (fNotT (fBool (fCall m__law_like (fCons (fLst (fCons (fCall m_count_power_sums (fCons (fVar 1) (fCons (fVar 2) (fCons (fC (.int 2)) (fCons (fVar 4) fNil))))) (fCons (fCall m_count_power_sums (fCons (fVar 1) (fCons (fVar 2) (fCons (fC (.int 1)) (fCons (fVar 4) fNil))))) fNil))) (fCons (fLst (fCons (fVar 5) (fCons (fCount (fRd 3) (fVar 4)) fNil))) fNil))))) (fRet (fC (.bl false))) fSkip) fuel [some (.fz (.hd 0)), some (.fz (.int n)), some (.fz (.int t)), some (.fz (.lst P)), some (.fz (.int x)), some (.fz (.int V)), none, none, none, none, none] S1 = .nx [some (.fz (.hd 0)), some (.fz (.int n)), some (.fz (.int t)), some (.fz (.lst P)), some (.fz (.int x)), some (.fz (.int V)), none, none, none, none, none] S1 := by
    simp [c2', c1', cntx, lk2]
  have st4 : (fSet 6 (fOp gAdd (fC (.int 2)) (fCall m__law_roll (fCons (fVar 0) (fCons (fC (.int 5)) fNil))))) fuel [some (.fz (.hd 0)), some (.fz (.int n)), some (.fz (.int t)), some (.fz (.lst P)), some (.fz (.int x)), some (.fz (.int V)), none, none, none, none, none] S1 = .nx [some (.fz (.hd 0)), some (.fz (.int n)), some (.fz (.int t)), some (.fz (.lst P)), some (.fz (.int x)), some (.fz (.int V)), some (.fz (.int (2 + (m : Int)))), none, none, none, none] S2 := by
    simp [rl2]
  have st5 : (fSet 5 (fCB gSum (fCons (fLc (fIt (fSl (fUn gSetS (fRd 3)) foN (foS (fC (.int 40))))) (gN 10) fYes (le3__law_ways_right) [10]) fNil))) fuel [some (.fz (.hd 0)), some (.fz (.int n)), some (.fz (.int t)), some (.fz (.lst P)), some (.fz (.int x)), some (.fz (.int V)), some (.fz (.int (2 + (m : Int)))), none, none, none, none] S2 = .nx [some (.fz (.hd 0)), some (.fz (.int n)), some (.fz (.int t)), some (.fz (.lst P)), some (.fz (.int x)), some (.fz (.int w)), some (.fz (.int (2 + (m : Int)))), none, none, none, none] S2 := by
    simp [fLc, fIt, gs, hns, lnN, wipeE, l3, s3]
  have st6 : (fIfS (fAndT (fBool (fOp gLe (fUn gSetN (fRd 3)) (fC (.int 40)))) (fNotT (fBool (fCall m__law_like (fCons (fCall m_count_power_sums (fCons (fVar 1) (fCons (fVar 2) (fCons (fVar 6) (fCons (fVar 4) fNil))))) (fCons (fVar 5) fNil)))))) (fRet (fC (.bl false))) fSkip) fuel [some (.fz (.hd 0)), some (.fz (.int n)), some (.fz (.int t)), some (.fz (.lst P)), some (.fz (.int x)), some (.fz (.int w)), some (.fz (.int (2 + (m : Int)))), none, none, none, none] S2 = .nx [some (.fz (.hd 0)), some (.fz (.int n)), some (.fz (.int t)), some (.fz (.lst P)), some (.fz (.int x)), some (.fz (.int w)), some (.fz (.int (2 + (m : Int)))), none, none, none, none] S2 := by
    by_cases c : N ≤ 40
    · have c2 : (N : Int) ≤ 40 := by omega
      rw [w3 c]
      simp [gn, c2, cm, lkw]
    · have c2 : ¬ (N : Int) ≤ 40 := by omega
      simp [gn, c2]
  have st7 : (fSet 7 (fC (.int 1))) fuel [some (.fz (.hd 0)), some (.fz (.int n)), some (.fz (.int t)), some (.fz (.lst P)), some (.fz (.int x)), some (.fz (.int w)), some (.fz (.int (2 + (m : Int)))), none, none, none, none] S2 = .nx [some (.fz (.hd 0)), some (.fz (.int n)), some (.fz (.int t)), some (.fz (.lst P)), some (.fz (.int x)), some (.fz (.int w)), some (.fz (.int (2 + (m : Int)))), some (.fz (.int 1)), none, none, none] S2 := by
    simp
  have st8 : (fFor (fLift rng1? (fCons (fVar 6) fNil)) (gN 8) (fb1__law_ways_right)) fuel [some (.fz (.hd 0)), some (.fz (.int n)), some (.fz (.int t)), some (.fz (.lst P)), some (.fz (.int x)), some (.fz (.int w)), some (.fz (.int (2 + (m : Int)))), some (.fz (.int 1)), none, none, none] S2 = .nx [some (.fz (.hd 0)), some (.fz (.int n)), some (.fz (.int t)), some (.fz (.lst P)), some (.fz (.int x)), some (.fz (.int w)), some (.fz (.int (2 + (m : Int)))), some (.fz (.int pw)), y8, none, none] S2 := by
    simp [rm, wl]
  have stz : (fRet (fOr (fOp gGt (fRd 1) (fC (.int 20))) (fOp gEq (fCB gSum (fCons (fLc (fLift rng1? (fCons (fVar 1) fNil)) (gN 10) fYes (le4__law_ways_right) [10]) fNil)) (fRd 7)))) fuel [some (.fz (.hd 0)), some (.fz (.int n)), some (.fz (.int t)), some (.fz (.lst P)), some (.fz (.int x)), some (.fz (.int w)), some (.fz (.int (2 + (m : Int)))), some (.fz (.int pw)), y8, none, none] S2 = .rt (.bl true) S2 := by
    by_cases d : (20 : Int) < n
    · simp [d]
    · simp [d, fLc, r, hlen, wipeE, l4, s4]
  have e0 : startE N__law_ways_right [.hd 0, .int n, .int t] = [some (.fz (.hd 0)), some (.fz (.int n)), some (.fz (.int t)), none, none, none, none, none, none, none, none] := rfl
  show bodyR (f__law_ways_right fuel (startE N__law_ways_right [.hd 0, .int n, .int t]) S) = _
  unfold f__law_ways_right
  rw [e0, seq_nx st0, seq_nx st1, seq_nx st2, seq_nx st3, seq_nx st4, seq_nx st5, seq_nx st6, seq_nx st7, seq_nx st8, stz]
  rfl
end LW

end

section
set_option autoImplicit false
set_option autoImplicit false
namespace LW
open PySem PySem.Spec PyProof.Rows L2 DL NT
theorem sm_app {α : Type} {f : α → Int} : ∀ {l m : List α}, sm (l ++ m) f = sm l f + sm m f
  | [], m => by simp [sm]
  | a :: l, m => by
    rw [List.cons_append]
    simp only [sm, sm_app (l := l)]; omega
theorem sm_rng {f : Nat → Int} {m : Nat} : sm (List.range (m + 1)) f = sm (List.range m) f + f m := by
  rw [List.range_succ, sm_app]
  simp [sm]
theorem cnt_rts {n t j : Nat} (hj : j < n) : (PL n t).count ((j : Nat) : Int) = rts n t j := by
  unfold PL rts
  rw [List.count_eq_countP, List.countP_map, List.countP_eq_length_filter]
  congr 1
  apply List.filter_congr
  intro k _
  simp only [Function.comp]
  rw [Nat.mod_eq_of_lt hj]
  show (((pm k t n : Nat) : Int) == (j : Int)) = (pm k t n == j)
  by_cases c : pm k t n = j
  · rw [c]; simp
  · have : ¬ ((pm k t n : Nat) : Int) = (j : Int) := by omega
    rw [beq_eq_false_iff_ne.mpr this, beq_eq_false_iff_ne.mpr c]
/-- two terms that come to 1, fast -/
def w2s (p t h : Nat) : Nat → Nat
  | 0 => 0
  | y + 1 => w2s p t h y + h / 512 ^ ((1 + p - y ^ t % p) % p) % 512
theorem W_two {p t : Nat} (hp : 2 ≤ p) (hp2 : p < 512) : W p t 2 1 = (w2s p t (hist 512 p t p) p : Nat) := by
  show (sm (PL p t) fun x => W p t 1 ((1 - x) % (p : Int))) = _
  have e : PL p t = (List.range p).map fun k : Nat => ((pm k t p : Nat) : Int) := rfl
  rw [e, sm_map]
  have key : ∀ m, (sm (List.range m) fun k => W p t 1 ((1 - ((pm k t p : Nat) : Int)) % (p : Int))) = (w2s p t (hist 512 p t p) m : Nat) := by
    intro m
    induction m with
    | zero => rfl
    | succ m ih =>
      rw [sm_rng, ih]
      have l1 := pm_lt (t := t) (k := m) (show 1 ≤ p by omega)
      have i0 : (1 - ((pm m t p : Nat) : Int)) % (p : Int) = (((1 + p - pm m t p) % p : Nat) : Int) := by
        push_cast
        have : ((1 + p - pm m t p : Nat) : Int) = (1 - ((pm m t p : Nat) : Int)) + p := by omega
        rw [this, Int.add_emod_right]
      have lt : (1 + p - pm m t p) % p < p := Nat.mod_lt _ (by omega)
      rw [W_one (by omega) (by rw [i0]; omega) (by rw [i0]; omega), i0, cnt_rts lt, ← hist_dig (show 0 < p by omega) hp2 lt]
      show _ = ((w2s p t (hist 512 p t p) m + _ : Nat) : Int)
      push_cast
      rfl
  exact key p
/-! ### Gauss: the check -/
def fiR (sq : Int) : Option Int := (rngI 1 1 49).find? fun r => r * r == sq
def foR (p : Int) : List Int → Option Int
  | [] => none
  | o :: l => match fiR (4 * p - 27 * o * o) with
    | some r => some r
    | none => foR p l
def ownR (r : Int) : Int := if r % 3 = 1 then r else 0 - r
def okP (p : Nat) : Bool := w2s p 2 (hist 512 p 2 p) p == (if p % 4 = 1 then p - 1 else p + 1) && (if p % 3 = 2 then w2s p 3 (hist 512 p 3 p) p == p else match foR p (rngI 1 1 19) with
  | some r => ((w2s p 3 (hist 512 p 3 p) p : Nat) : Int) == (p : Int) - 2 + ownR r
  | none => false)
def hasD (p : Nat) : Bool := (List.range' 2 19).any fun d => decide (d < p) && p % d == 0
theorem gauss_all : ((List.range' 5 405).all fun p => hasD p || okP p) = true := by decide +kernel
theorem gauss {p : Nat} (hp : Pm p) (h5 : 5 ≤ p) (h : p ≤ 409) : okP p = true := by
  have := List.all_eq_true.mp gauss_all p (List.mem_range'_1.mpr ⟨h5, by omega⟩)
  rw [Bool.or_eq_true] at this
  rcases this with z | z
  · exfalso
    obtain ⟨d, hd, hd2⟩ := List.any_eq_true.mp z
    rw [Bool.and_eq_true, decide_eq_true_eq, beq_iff_eq] at hd2
    have h2 := (List.mem_range'_1.mp hd).1
    exact hp.2 d (by omega) (by omega) (by
      obtain ⟨k, hk⟩ := Nat.dvd_of_mod_eq_zero hd2.2
      exact ⟨k, by rw [hk]; push_cast; rfl⟩)
  · exact z
/-! ### primes_right -/
theorem pr_loop {S : Store} {a0 a2 a3 a4 a5 : Option Sl} : ∀ (k p : Nat), 5 ≤ p → p + k = 409 → ∀ m, k < m → ∃ q : Nat, p ≤ q ∧ q ≤ 409 ∧ Pm q ∧
    whileL (wc1__law_primes_right fuel) (wb1__law_primes_right fuel) m [a0, some (.fz (.int p)), a2, a3, a4, a5] S = .nx [a0, some (.fz (.int q)), a2, a3, a4, a5] S
  | k, p, h5, hk, m + 1, hm => by
    have lp := fun S => law_is_prime (S := S) (n := p) (by omega)
    cases e : pmb (p : Int) with
    | true =>
      rw [e] at lp
      refine ⟨p, by omega, by omega, pmb_iff.mp e, ?_⟩
      rw [while_end (S1 := S)]
      simp [wc1__law_primes_right, lp]
    | false =>
      rw [e] at lp
      cases k with
      | zero =>
        exfalso
        have : p = 409 := by omega
        subst this
        rw [pmb_tri (k := 40) (by decide) (by decide)] at e
        exact absurd e (by decide +kernel)
      | succ k =>
        obtain ⟨q, q1, q2, q3, ih⟩ := pr_loop (S := S) (a0 := a0) (a2 := a2) (a3 := a3) (a4 := a4) (a5 := a5) k (p + 1) (by omega) (by omega) m (by omega)
        refine ⟨q, by omega, q2, q3, ?_⟩
        rw [while_nx (E2 := [a0, some (.fz (.int ((p + 1 : Nat) : Int))), a2, a3, a4, a5]) (S1 := S) (S2 := S)]
        · exact ih
        · simp [wc1__law_primes_right, lp]
        · simp [wb1__law_primes_right]
theorem gi_none {S : Store} {a0 a1 a2 a5 : Option Sl} {sq : Int} : ∀ (l : List Int) (x4 : Option Sl), (∀ r ∈ l, 0 ≤ r ∧ r < 100) → l.find? (fun r => r * r == sq) = none → ∃ y4,
    forL (gN 4) (fb1__law_primes_right fuel) (l.map D.int) [a0, a1, a2, some (.fz (.int sq)), x4, a5] S = .nx [a0, a1, a2, some (.fz (.int sq)), y4, a5] S
  | [], x4, _, _ => ⟨x4, rfl⟩
  | r :: l, x4, hb, h => by
    obtain ⟨r0, r1⟩ := hb r (List.mem_cons_self ..)
    rw [List.find?_cons] at h
    have mk : mulOk r r = true := mulOk_l (by omega)
    have ml : gMul (.int r) (.int r) = some (.int (r * r)) := by
      show (if _ then _ else _) = _
      rw [if_pos mk]
    by_cases c : r * r = sq
    · simp [c] at h
    · have c2 : (r * r == sq) = false := by simp [c]
      rw [c2] at h
      obtain ⟨y4, ih⟩ := gi_none (S := S) (a0 := a0) (a1 := a1) (a2 := a2) (a5 := a5) l (some (.fz (.int r))) (fun x hx => hb x (List.mem_cons_of_mem _ hx)) h
      refine ⟨y4, ?_⟩
      rw [List.map_cons, for_nx (E1 := [a0, a1, a2, some (.fz (.int sq)), some (.fz (.int r)), a5]) (E2 := [a0, a1, a2, some (.fz (.int sq)), some (.fz (.int r)), a5]) (S2 := S) rfl (by simp [fb1__law_primes_right, ml, c])]
      exact ih
theorem for_rt {t : Tgt} {b : DL.Env → Store → SRes} {d r : D} {l : List D} {E E1 : DL.Env} {S S2 : Store} (h1 : t d E = some E1) (h2 : b E1 S = .rt r S2) : forL t b (d :: l) E S = .rt r S2 := by
  simp only [forL, h1, h2]
theorem gi_some {S : Store} {a0 a2 a5 : Option Sl} {sq r : Int} {p : Nat} (hp : 1 ≤ p) (hp2 : p ≤ 500) (hw : W p 3 2 1 = (p : Int) - 2 + ownR r) (hp3 : 2 ≤ p) : ∀ (l : List Int) (x4 : Option Sl), (∀ r ∈ l, 0 ≤ r ∧ r < 100) → l.find? (fun r => r * r == sq) = some r →
    forL (gN 4) (fb1__law_primes_right fuel) (l.map D.int) [a0, some (.fz (.int p)), a2, some (.fz (.int sq)), x4, a5] S = .rt (.bl true) S
  | [], x4, _, h => by cases h
  | s :: l, x4, hb, h => by
    obtain ⟨r0, r1⟩ := hb s (List.mem_cons_self ..)
    rw [List.find?_cons] at h
    have mk : mulOk s s = true := mulOk_l (by omega)
    have ml : gMul (.int s) (.int s) = some (.int (s * s)) := by
      show (if _ then _ else _) = _
      rw [if_pos mk]
    by_cases c : s * s = sq
    · have c2 : (s * s == sq) = true := by simp [c]
      rw [c2] at h
      have es : r = s := by simpa using h.symm
      subst es
      have cp : ∀ S, m_count_power_sums [.int p, .int 3, .int 2, .int 1] S = .ok (.int (W p 3 2 1)) S := fun S => count_power_sums (t := 3) (j := 2) hp hp2 (by decide) (by decide) (by decide) (by decide) (by decide) (by omega)
      have lk : ∀ S, m__law_like [.int (W p 3 2 1), .int ((p : Int) - 2 + ownR r)] S = .ok (.bl true) S := fun S => by rw [hw]; exact like rfl
      have m3 : gMod (.int r) (.int 3) = some (.int (r % 3)) := o_mod (by decide)
      refine for_rt (E1 := [a0, some (.fz (.int p)), a2, some (.fz (.int sq)), some (.fz (.int r)), a5]) rfl ?_
      unfold ownR at lk
      by_cases d : r % 3 = 1
      · rw [if_pos d] at lk
        simp [fb1__law_primes_right, ml, c, gInt, m3, d, cp, lk]
      · rw [if_neg d] at lk
        simp only [Int.zero_sub] at lk
        simp [fb1__law_primes_right, ml, c, gInt, m3, d, cp, lk]
    · have c2 : (s * s == sq) = false := by simp [c]
      rw [c2] at h
      have ih := gi_some (S := S) (a0 := a0) (a2 := a2) (a5 := a5) hp hp2 hw hp3 l (some (.fz (.int s))) (fun x hx => hb x (List.mem_cons_of_mem _ hx)) h
      rw [List.map_cons, for_nx (E1 := [a0, some (.fz (.int p)), a2, some (.fz (.int sq)), some (.fz (.int s)), a5]) (E2 := [a0, some (.fz (.int p)), a2, some (.fz (.int sq)), some (.fz (.int s)), a5]) (S2 := S) rfl (by simp [fb1__law_primes_right, ml, c])]
      exact ih
theorem go_some {S : Store} {a0 a5 : Option Sl} {r : Int} {p : Nat} (hp : 1 ≤ p) (hp2 : p ≤ 500) (hw : W p 3 2 1 = (p : Int) - 2 + ownR r) (hp3 : 2 ≤ p) : ∀ (l : List Int) (x2 x3 x4 : Option Sl), (∀ o ∈ l, 0 ≤ o ∧ o < 100) → foR p l = some r →
    forL (gN 2) (fb2__law_primes_right fuel) (l.map D.int) [a0, some (.fz (.int p)), x2, x3, x4, a5] S = .rt (.bl true) S
  | [], x2, x3, x4, _, h => by cases h
  | o :: l, x2, x3, x4, hb, h => by
    obtain ⟨o0, o1⟩ := hb o (List.mem_cons_self ..)
    have gm : ∀ {i j : Int}, i.natAbs < 2 ^ 64 → gMul (.int i) (.int j) = some (.int (i * j)) := fun {i j} hi => by
      show (if _ then _ else _) = _
      rw [if_pos (mulOk_l hi)]
    have m1 : gMul (.int 4) (.int p) = some (.int (4 * (p : Int))) := gm (by decide)
    have m2 : gMul (.int 27) (.int o) = some (.int (27 * o)) := gm (by decide)
    have m3 : gMul (.int (27 * o)) (.int o) = some (.int (27 * o * o)) := gm (by omega)
    have r49 : rng2? [.int 1, .int 50] = some ((rngI 1 1 49).map D.int) := by rw [rng2_ok (by decide) (by decide) (by decide) (by decide)]; rfl
    have rb : ∀ r ∈ rngI 1 1 49, 0 ≤ r ∧ r < 100 := fun r hr => by
      obtain ⟨k, hk, rfl⟩ := mem_rngI.mp hr
      omega
    unfold foR at h
    obtain ⟨R, hR⟩ : ∃ R, R = (rngI 1 1 49).map D.int := ⟨_, rfl⟩
    obtain ⟨sq, hsq⟩ : ∃ sq, sq = 4 * (p : Int) - 27 * o * o := ⟨_, rfl⟩
    rw [← hsq] at h
    cases e : fiR sq with
    | some s =>
      rw [e] at h
      cases h
      have gi := gi_some (S := S) (a0 := a0) (a2 := some (.fz (.int o))) (a5 := a5) hp hp2 hw hp3 (rngI 1 1 49) x4 rb e
      rw [← hR] at gi r49
      rw [hsq] at gi
      refine for_rt (E1 := [a0, some (.fz (.int p)), some (.fz (.int o)), x3, x4, a5]) rfl ?_
      simp [fb2__law_primes_right, m1, m2, m3, r49, gi]
    | none =>
      rw [e] at h
      obtain ⟨y4, gi⟩ := gi_none (S := S) (a0 := a0) (a1 := some (.fz (.int p))) (a2 := some (.fz (.int o))) (a5 := a5) (rngI 1 1 49) x4 rb e
      have ih := go_some (S := S) (a0 := a0) (a5 := a5) hp hp2 hw hp3 l (some (.fz (.int o))) (some (.fz (.int sq))) y4 (fun x hx => hb x (List.mem_cons_of_mem _ hx)) h
      rw [← hR] at gi r49
      rw [List.map_cons, for_nx (E1 := [a0, some (.fz (.int p)), some (.fz (.int o)), x3, x4, a5]) (E2 := [a0, some (.fz (.int p)), some (.fz (.int o)), some (.fz (.int sq)), y4, a5]) (S2 := S) rfl ?_]
      · exact ih
      · rw [hsq] at gi ⊢
        simp [fb2__law_primes_right, m1, m2, m3, r49, gi]
theorem law_primes_right {S : Store} (hc : Cup S) : ∃ S', Cup S' ∧ m__law_primes_right [.hd 0] S = .ok (.bl true) S' := by
  obtain ⟨x, S1, rl, c1, p0, p1⟩ := law_roll hc (k := 400) (by decide) (by decide)
  obtain ⟨p, hp⟩ : ∃ p : Nat, 5 + x = p := ⟨(5 + x).toNat, by omega⟩
  obtain ⟨q, q1, q2, q3, wl⟩ := pr_loop (S := S1) (a0 := some (.fz (.hd 0))) (a2 := none) (a3 := none) (a4 := none) (a5 := none) (409 - p) p (by omega) (by omega) fuel (by
      have : 2000 < fuel := by unfold fuel; decide
      exact Nat.lt_of_le_of_lt (show _ ≤ 501 by omega) (by omega))
  have ok := gauss q3 (by omega) q2
  unfold okP at ok
  rw [Bool.and_eq_true, beq_iff_eq] at ok
  obtain ⟨ok2, ok3⟩ := ok
  have w2 := W_two (p := q) (t := 2) (by omega) (by omega)
  have w3 := W_two (p := q) (t := 3) (by omega) (by omega)
  rw [ok2] at w2
  have cp2 : ∀ S, m_count_power_sums [.int q, .int 2, .int 2, .int 1] S = .ok (.int (W q 2 2 1)) S := fun S => count_power_sums (t := 2) (j := 2) (by omega) (by omega) (by decide) (by decide) (by decide) (by decide) (by decide) (by omega)
  have cp3 : ∀ S, m_count_power_sums [.int q, .int 3, .int 2, .int 1] S = .ok (.int (W q 3 2 1)) S := fun S => count_power_sums (t := 3) (j := 2) (by omega) (by omega) (by decide) (by decide) (by decide) (by decide) (by decide) (by omega)
  have e2 : W q 2 2 1 = if (q : Int) % 4 = 1 then (q : Int) - 1 else (q : Int) - -1 := by
    rw [w2]
    by_cases c : q % 4 = 1
    · rw [if_pos c, if_pos (by omega)]; omega
    · rw [if_neg c, if_neg (by omega)]; omega
  have m4 : gMod (.int (q : Int)) (.int 4) = some (.int ((q : Int) % 4)) := o_mod (by decide)
  have m3 : gMod (.int (q : Int)) (.int 3) = some (.int ((q : Int) % 3)) := o_mod (by decide)
  have r20 : rng2? [.int 1, .int 20] = some ((rngI 1 1 19).map D.int) := by rw [rng2_ok (by decide) (by decide) (by decide) (by decide)]; rfl
  have rb : ∀ r ∈ rngI 1 1 19, 0 ≤ r ∧ r < 100 := fun r hr => by
    obtain ⟨k, hk, rfl⟩ := mem_rngI.mp hr
    omega
  have lk2 : ∀ S, m__law_like [.int (W q 2 2 1), .int (W q 2 2 1)] S = .ok (.bl true) S := fun S => like rfl
  obtain ⟨U, hU⟩ : ∃ U, U = W q 2 2 1 := ⟨_, rfl⟩
  rw [← hU] at cp2 lk2 e2
  refine ⟨S1, c1, ?_⟩
  by_cases c : q % 3 = 2
  · rw [if_pos c, beq_iff_eq] at ok3
    rw [ok3] at w3
    have c' : (q : Int) % 3 = 2 := by omega
    have lk3 : ∀ S, m__law_like [.int (W q 3 2 1), .int q] S = .ok (.bl true) S := fun S => by rw [w3]; exact like rfl
    by_cases d : (q : Int) % 4 = 1
    · rw [if_pos d] at e2
      rw [e2] at lk2 cp2
      simp [m__law_primes_right, f__law_primes_right, N__law_primes_right, startE, rl, hp, wl, cp2, gInt, m4, d, lk2, m3, c', cp3, lk3]
    · rw [if_neg d] at e2
      rw [e2] at lk2 cp2
      simp only [Int.sub_neg] at lk2 cp2
      simp [m__law_primes_right, f__law_primes_right, N__law_primes_right, startE, rl, hp, wl, cp2, gInt, m4, d, lk2, m3, c', cp3, lk3]
  · rw [if_neg c] at ok3
    have c' : ¬ (q : Int) % 3 = 2 := by omega
    cases e : foR q (rngI 1 1 19) with
    | none => rw [e] at ok3; cases ok3
    | some r =>
      rw [e] at ok3
      have ok3 : ((w2s q 3 (hist 512 q 3 q) q : Nat) : Int) = (q : Int) - 2 + ownR r := beq_iff_eq.mp ok3
      rw [ok3] at w3
      have go := go_some (S := S1) (a0 := some (.fz (.hd 0))) (a5 := none) (by omega : 1 ≤ q) (by omega) w3 (by omega) (rngI 1 1 19) none none none rb e
      obtain ⟨R, hR⟩ : ∃ R, R = (rngI 1 1 19).map D.int := ⟨_, rfl⟩
      rw [← hR] at go r20
      by_cases d : (q : Int) % 4 = 1
      · rw [if_pos d] at e2
        rw [e2] at lk2 cp2
        simp [m__law_primes_right, f__law_primes_right, N__law_primes_right, startE, rl, hp, wl, cp2, gInt, m4, d, lk2, m3, c', r20, go]
      · rw [if_neg d] at e2
        rw [e2] at lk2 cp2
        simp only [Int.sub_neg] at lk2 cp2
        simp [m__law_primes_right, f__law_primes_right, N__law_primes_right, startE, rl, hp, wl, cp2, gInt, m4, d, lk2, m3, c', r20, go]
end LW

end

section
set_option autoImplicit false
set_option autoImplicit false
namespace LW
open PySem PySem.Spec PyProof.Rows L2 DL NT
/-! ### rests as bits -/
def rot (p A m : Nat) : Nat := ((A <<< m) ||| ((A <<< m) >>> p)) &&& (2 ^ p - 1)
def stepB (p t A : Nat) : Nat → Nat
  | 0 => 0
  | k + 1 => stepB p t A k ||| rot p A (k ^ t % p)
def reach (p t : Nat) : Nat → Nat → Bool
  | 0, A => A == 2 ^ p - 1
  | j + 1, A => A == 2 ^ p - 1 || reach p t j (stepB p t A p)
def Bits (p t j A : Nat) : Prop := ∀ r, A.testBit r = true → r < p ∧ In p t j r
theorem rot_bit {p t j A k : Nat} (hp : 1 ≤ p) (hk : k < p) (h : Bits p t j A) : Bits p t (j + 1) (rot p A (k ^ t % p)) := by
  intro r hr
  unfold rot at hr
  rw [Nat.testBit_and, Nat.testBit_two_pow_sub_one, Nat.testBit_or, Nat.testBit_shiftRight, Nat.testBit_shiftLeft, Nat.testBit_shiftLeft, Bool.and_eq_true, decide_eq_true_eq, Bool.or_eq_true, Bool.and_eq_true, Bool.and_eq_true, decide_eq_true_eq, decide_eq_true_eq] at hr
  obtain ⟨h1, h2⟩ := hr
  have lt := pm_lt (t := t) (k := k) hp
  have ek : k ^ t % p = pm k t p := rfl
  rw [ek] at h1
  refine ⟨h2, ?_⟩
  rcases h1 with ⟨a, b⟩ | ⟨a, b⟩
  · obtain ⟨c, d⟩ := h _ b
    refine In_succ.mpr ⟨_, d, k, hk, ?_⟩
    have : (((r - pm k t p : Nat) : Int) + (pm k t p : Nat)) = r := by omega
    rw [this, Int.emod_eq_of_lt (by omega) (by omega)]
  · obtain ⟨c, d⟩ := h _ b
    refine In_succ.mpr ⟨_, d, k, hk, ?_⟩
    have : (((p + r - pm k t p : Nat) : Int) + (pm k t p : Nat)) = r + p := by omega
    rw [this, Int.add_emod_right, Int.emod_eq_of_lt (by omega) (by omega)]
theorem step_bit {p t j A : Nat} (hp : 1 ≤ p) (h : Bits p t j A) : ∀ k, k ≤ p → Bits p t (j + 1) (stepB p t A k)
  | 0, _ => fun r hr => by simp [stepB] at hr
  | k + 1, hk => fun r hr => by
    unfold stepB at hr
    rw [Nat.testBit_or, Bool.or_eq_true] at hr
    rcases hr with z | z
    · exact step_bit hp h k (by omega) r z
    · exact rot_bit hp (by omega) h r z
theorem full_bit {p t j A : Nat} (h : Bits p t j A) (e : A = 2 ^ p - 1) : Full p t j := fun r hr => by
  refine (h r ?_).2
  rw [e, Nat.testBit_two_pow_sub_one, decide_eq_true hr]
theorem reach_full {p t : Nat} (hp : 1 ≤ p) (ht : 1 ≤ t) : ∀ (k j A : Nat), Bits p t j A → reach p t k A = true → Full p t (j + k)
  | 0, j, A, h, e => full_bit h (beq_iff_eq.mp e)
  | k + 1, j, A, h, e => by
    unfold reach at e
    rw [Bool.or_eq_true] at e
    rcases e with e | e
    · exact Full_le hp ht (by omega) (full_bit h (beq_iff_eq.mp e))
    · have := reach_full hp ht k (j + 1) _ (step_bit hp h p (Nat.le_refl _)) e
      have e : j + 1 + k = j + (k + 1) := by omega
      rw [← e]; exact this
def few15 : List Nat := [2, 3, 5, 7, 11, 13, 17, 19, 23, 29, 31, 37, 41, 101, 499]
theorem reach_all : (few15.all fun p => (List.range' 2 11).all fun t => reach p t t 1) = true := by decide +kernel
theorem few_terms {S : Store} {p t : Nat} (hp : p ∈ few15) (t1 : 2 ≤ t) (t2 : t ≤ 12) : ∃ J : Nat, J ≤ t ∧ m_least_terms [.int p, .int t] S = .ok (.int J) S := by
  have r := List.all_eq_true.mp (List.all_eq_true.mp reach_all p hp) t (List.mem_range'_1.mpr ⟨t1, by omega⟩)
  have pb : 1 ≤ p ∧ p ≤ 500 := by
    have : ∀ p ∈ few15, 1 ≤ p ∧ p ≤ 500 := by decide
    exact this p hp
  have b0 : Bits p t 0 1 := fun r hr => by
    have : r = 0 := by
      apply Classical.byContradiction
      intro z
      obtain ⟨r, rfl⟩ := Nat.exists_eq_succ_of_ne_zero z
      rw [Nat.testBit_succ] at hr
      simp at hr
    subst this
    exact ⟨by omega, by show (0 : Int) ∈ SS p t 0; simp [SS]⟩
  have f := reach_full pb.1 (by omega) t 0 1 b0 r
  rw [Nat.zero_add] at f
  obtain ⟨J, j1, jn, jf, jl⟩ := exJ (n := p) (t := t) pb.1 (by omega)
  refine ⟨J, ?_, least_terms pb.1 pb.2 t1 t2 j1 jf jl⟩
  apply Classical.byContradiction
  intro z
  exact jl t (by omega) (by omega) f
/-! ### closed calls -/
theorem ex1 (S : Store) : m_least_terms [.int 7, .int 3] S = .ok (.int 3) S := by kernel_rfl
theorem ex2 (S : Store) : m_least_terms [.int 9, .int 3] S = .ok (.int 4) S := by kernel_rfl
theorem ex3 (S : Store) : m_least_terms [.int 16, .int 4] S = .ok (.int 15) S := by kernel_rfl
theorem ex4 (S : Store) : m_least_terms [.int 1, .int 2] S = .ok (.int 1) S := by kernel_rfl
theorem ex5 (S : Store) : m_rests_of_sums [.int 9, .int 3, .int 2] S = .ok (.tup [.int 0, .int 1, .int 2, .int 7, .int 8]) S := by kernel_rfl
theorem ex6 (S : Store) : m_power_terms [.int 7, .int 2, .int 0] S = .ok (.tup [.int 0]) S := by kernel_rfl
theorem ex7 (S : Store) : m_are_power_terms [.int 7, .int 3, .int 3, .tup [.int 1, .int 2, .int 4]] S = .ok (.bl true) S := by kernel_rfl
theorem ex8 (S : Store) : m_are_power_terms [.int 7, .int 3, .int 1, .tup [.int 1, .int 0]] S = .ok (.bl false) S := by kernel_rfl
theorem ex9 (S : Store) : m_are_power_terms [.int 7, .int 3, .int 1, .tup [.int 3]] S = .ok (.bl false) S := by kernel_rfl
theorem ex10 (S : Store) : m_count_power_sums [.int 7, .int 3, .int 2, .int 0] S = .ok (.int 19) S := by kernel_rfl
theorem ex11 (S : Store) : m_count_power_sums [.int 5, .int 2, .int 2, .int 1] S = .ok (.int 4) S := by kernel_rfl
theorem ex12 (S : Store) : m_count_power_sums [.int 1, .int 2, .int 3, .int 0] S = .ok (.int 1) S := by kernel_rfl
theorem own2 (S : Store) : m_least_terms [.int 3, .int 2] S = .ok (.int 2) S := by kernel_rfl
theorem own4 (S : Store) : m_least_terms [.int 5, .int 4] S = .ok (.int 4) S := by kernel_rfl
theorem own6 (S : Store) : m_least_terms [.int 7, .int 6] S = .ok (.int 6) S := by kernel_rfl
theorem own10 (S : Store) : m_least_terms [.int 11, .int 10] S = .ok (.int 10) S := by kernel_rfl
theorem own12 (S : Store) : m_least_terms [.int 13, .int 12] S = .ok (.int 12) S := by kernel_rfl
theorem pr2 (S : Store) : m_power_rests [.int 3, .int 2] S = .ok (.tup [.int 0, .int 1]) S := by kernel_rfl
theorem pr4 (S : Store) : m_power_rests [.int 5, .int 4] S = .ok (.tup [.int 0, .int 1]) S := by kernel_rfl
theorem pr6 (S : Store) : m_power_rests [.int 7, .int 6] S = .ok (.tup [.int 0, .int 1]) S := by kernel_rfl
theorem pr10 (S : Store) : m_power_rests [.int 11, .int 10] S = .ok (.tup [.int 0, .int 1]) S := by kernel_rfl
theorem pr12 (S : Store) : m_power_rests [.int 13, .int 12] S = .ok (.tup [.int 0, .int 1]) S := by kernel_rfl
theorem db3 (S : Store) : m_least_terms [.int 7, .int 3] S = .ok (.int 3) S := by kernel_rfl
theorem db5 (S : Store) : m_least_terms [.int 11, .int 5] S = .ok (.int 5) S := by kernel_rfl
theorem db6 (S : Store) : m_least_terms [.int 13, .int 6] S = .ok (.int 6) S := by kernel_rfl
theorem db8 (S : Store) : m_least_terms [.int 17, .int 8] S = .ok (.int 8) S := by kernel_rfl
theorem db9 (S : Store) : m_least_terms [.int 19, .int 9] S = .ok (.int 9) S := by kernel_rfl
theorem db11 (S : Store) : m_least_terms [.int 23, .int 11] S = .ok (.int 11) S := by kernel_rfl
theorem pd3 (S : Store) : m_power_rests [.int 7, .int 3] S = .ok (.tup [.int 0, .int 1, .int 6]) S := by kernel_rfl
theorem pd5 (S : Store) : m_power_rests [.int 11, .int 5] S = .ok (.tup [.int 0, .int 1, .int 10]) S := by kernel_rfl
theorem pd6 (S : Store) : m_power_rests [.int 13, .int 6] S = .ok (.tup [.int 0, .int 1, .int 12]) S := by kernel_rfl
theorem pd8 (S : Store) : m_power_rests [.int 17, .int 8] S = .ok (.tup [.int 0, .int 1, .int 16]) S := by kernel_rfl
theorem pd9 (S : Store) : m_power_rests [.int 19, .int 9] S = .ok (.tup [.int 0, .int 1, .int 18]) S := by kernel_rfl
theorem pd11 (S : Store) : m_power_rests [.int 23, .int 11] S = .ok (.tup [.int 0, .int 1, .int 22]) S := by kernel_rfl
end LW

end

section
set_option autoImplicit false
set_option autoImplicit false
namespace LW
open PySem PySem.Spec PyProof.Rows L2 DL NT
theorem times_of {S : Store} (hc : Cup S) : ∃ S' t, Cup S' ∧ (2 ≤ t ∧ t ≤ 12) ∧ m__law_times_of [.hd 0] S = .ok (.int (t : Nat)) S' := by
  obtain ⟨S', d, h1, h2, h3⟩ := law_some (l := [.int 2, .int 3, .int 3, .int 4, .int 4, .int 5, .int 6, .int 7, .int 8, .int 9, .int 10, .int 11, .int 12]) hc (by decide) (by decide)
  have : ∃ t : Nat, (2 ≤ t ∧ t ≤ 12) ∧ d = .int t := by
    simp only [List.mem_cons, List.not_mem_nil, or_false] at h2
    rcases h2 with rfl | rfl | rfl | rfl | rfl | rfl | rfl | rfl | rfl | rfl | rfl | rfl | rfl
    · exact ⟨2, by decide, rfl⟩
    · exact ⟨3, by decide, rfl⟩
    · exact ⟨3, by decide, rfl⟩
    · exact ⟨4, by decide, rfl⟩
    · exact ⟨4, by decide, rfl⟩
    · exact ⟨5, by decide, rfl⟩
    · exact ⟨6, by decide, rfl⟩
    · exact ⟨7, by decide, rfl⟩
    · exact ⟨8, by decide, rfl⟩
    · exact ⟨9, by decide, rfl⟩
    · exact ⟨10, by decide, rfl⟩
    · exact ⟨11, by decide, rfl⟩
    · exact ⟨12, by decide, rfl⟩
  obtain ⟨t, ht, rfl⟩ := this
  exact ⟨S', t, h1, ht, by simp [m__law_times_of, f__law_times_of, N__law_times_of, startE, h3]⟩
theorem ln_loop {m : Nat} {w : Option Sl} {L : List Int} (hm : m ≤ 900) (hL : ∀ x ∈ L, 1 ≤ x ∧ x < 100) (hl : 0 < L.length) (hl2 : L.length < 100) : ∀ (k : Nat) (lo : Int) (S : Store) (f : Nat) (x y : Option Sl), Cup S → 1 ≤ f → f ≤ m → ∃ S' f' x' y', Cup S' ∧ 1 ≤ f' ∧ f' ≤ m ∧
    forL (gN 5) (fb1__law_number fuel) ((rngI lo 1 k).map D.int) [some (.fz (.hd 0)), some (.fz (.int m)), w, some (.fz (.int f)), some (.fz (.lst (L.map D.int))), x, y] S =
      .nx [some (.fz (.hd 0)), some (.fz (.int m)), w, some (.fz (.int (f' : Nat))), some (.fz (.lst (L.map D.int))), x', y'] S'
  | 0, lo, S, f, x, y, hc, h1, h2 => ⟨S, f, x, y, hc, h1, h2, by simp [rngI]⟩
  | k + 1, lo, S, f, x, y, hc, h1, h2 => by
    obtain ⟨S1, d, c1, d1, e1⟩ := law_some (l := L.map D.int) hc (by rw [List.length_map]; exact hl) (by rw [List.length_map]; omega)
    obtain ⟨i, hi, rfl⟩ := List.mem_map.mp d1
    obtain ⟨i1, i2⟩ := hL i hi
    obtain ⟨p, rfl⟩ : ∃ p : Nat, i = p := ⟨i.toNat, by omega⟩
    have mk : mulOk f p = true := mulOk_r (by omega)
    have ef : (f : Int) * (p : Int) = ((f * p : Nat) : Int) := by push_cast; rfl
    obtain ⟨g, hg⟩ : ∃ g, g = f * p := ⟨_, rfl⟩
    have g1 : 1 ≤ g := by rw [hg]; exact Nat.mul_pos h1 (by omega)
    rw [← hg] at ef
    by_cases c : g ≤ m
    · have ci : (g : Int) ≤ (m : Int) := by omega
      obtain ⟨S', f', x', y', j1, j2, j3, j4⟩ := ln_loop (w := w) hm hL hl hl2 k (lo + 1) S1 g (some (.fz (.int lo))) (some (.fz (.int p))) c1 g1 c
      refine ⟨S', f', x', y', j1, j2, j3, ?_⟩
      rw [rngI_succ, List.map_cons, for_nx (E1 := [some (.fz (.hd 0)), some (.fz (.int m)), w, some (.fz (.int f)), some (.fz (.lst (L.map D.int))), some (.fz (.int lo)), y])
        (E2 := [some (.fz (.hd 0)), some (.fz (.int m)), w, some (.fz (.int g)), some (.fz (.lst (L.map D.int))), some (.fz (.int lo)), some (.fz (.int p))]) (S2 := S1) rfl ?_]
      · exact j4
      · simp [fb1__law_number, e1, o_mul mk, ef, c]
    · have ci : ¬ (g : Int) ≤ (m : Int) := by omega
      obtain ⟨S', f', x', y', j1, j2, j3, j4⟩ := ln_loop (w := w) hm hL hl hl2 k (lo + 1) S1 f (some (.fz (.int lo))) (some (.fz (.int p))) c1 h1 h2
      refine ⟨S', f', x', y', j1, j2, j3, ?_⟩
      rw [rngI_succ, List.map_cons, for_nx (E1 := [some (.fz (.hd 0)), some (.fz (.int m)), w, some (.fz (.int f)), some (.fz (.lst (L.map D.int))), some (.fz (.int lo)), y])
        (E2 := [some (.fz (.hd 0)), some (.fz (.int m)), w, some (.fz (.int f)), some (.fz (.lst (L.map D.int))), some (.fz (.int lo)), some (.fz (.int p))]) (S2 := S1) rfl ?_]
      · exact j4
      · simp [fb1__law_number, e1, o_mul mk, ef, c]
theorem law_number {S : Store} {m : Nat} (hc : Cup S) (h1 : 1 ≤ m) (h2 : m ≤ 900) : ∃ S' n, Cup S' ∧ 1 ≤ n ∧ n ≤ m ∧ m__law_number [.hd 0, .int m] S = .ok (.int (n : Nat)) S' := by
  obtain ⟨w, S1, r1, c1, p1, q1⟩ := law_roll hc (k := 4) (by decide) (by decide)
  have r6 : rng1? [.int 6] = some ((rngI 0 1 6).map D.int) := by rw [rng1_ok (by decide) (by decide)]; rfl
  by_cases a : w < 2
  · obtain ⟨x, S2, r2, c2, p2, q2⟩ := law_roll c1 (k := m) (by omega) (by omega)
    refine ⟨S2, (1 + x).toNat, c2, by omega, by omega, ?_⟩
    have e : (((1 + x).toNat : Nat) : Int) = 1 + x := by omega
    rw [e]
    simp [m__law_number, f__law_number, N__law_number, startE, r1, a, r2]
  · by_cases b : w = 2
    · subst b
      obtain ⟨S', f', x', y', j1, j2, j3, j4⟩ := ln_loop (m := m) (w := some (.fz (.int 2))) (L := [2, 3, 5, 7, 11, 13]) h2 (by decide) (by decide) (by decide) 6 0 S1 1 none none c1 (by decide) h1
      have j4 : forL (gN 5) (fb1__law_number fuel) ((rngI 0 1 6).map D.int) [some (.fz (.hd 0)), some (.fz (.int m)), some (.fz (.int 2)), some (.fz (.int 1)), some (.fz (.lst [.int 2, .int 3, .int 5, .int 7, .int 11, .int 13])), none, none] S1 =
        .nx [some (.fz (.hd 0)), some (.fz (.int m)), some (.fz (.int 2)), some (.fz (.int (f' : Nat))), some (.fz (.lst [.int 2, .int 3, .int 5, .int 7, .int 11, .int 13])), x', y'] S' := j4
      refine ⟨S', f', j1, j2, j3, ?_⟩
      simp [m__law_number, f__law_number, N__law_number, startE, r1, r6, j4]
    · obtain ⟨S2, d, c2, d1, e1⟩ := law_some (l := [.int 2, .int 3, .int 5, .int 7, .int 11]) c1 (by decide) (by decide)
      have : ∃ i : Int, (1 ≤ i ∧ i < 100) ∧ d = .int i := by
        simp only [List.mem_cons, List.not_mem_nil, or_false] at d1
        rcases d1 with rfl | rfl | rfl | rfl | rfl
        · exact ⟨2, by decide, rfl⟩
        · exact ⟨3, by decide, rfl⟩
        · exact ⟨5, by decide, rfl⟩
        · exact ⟨7, by decide, rfl⟩
        · exact ⟨11, by decide, rfl⟩
      obtain ⟨i, hi, rfl⟩ := this
      obtain ⟨S', f', x', y', j1, j2, j3, j4⟩ := ln_loop (m := m) (w := some (.fz (.int w))) (L := [i]) h2 (fun x hx => by rw [List.mem_singleton.mp hx]; exact hi) (by simp) (by simp) 6 0 S2 1 none none c2 (by decide) h1
      have j4 : forL (gN 5) (fb1__law_number fuel) ((rngI 0 1 6).map D.int) [some (.fz (.hd 0)), some (.fz (.int m)), some (.fz (.int w)), some (.fz (.int 1)), some (.fz (.lst [.int i])), none, none] S2 =
        .nx [some (.fz (.hd 0)), some (.fz (.int m)), some (.fz (.int w)), some (.fz (.int (f' : Nat))), some (.fz (.lst [.int i])), x', y'] S' := j4
      refine ⟨S', f', j1, j2, j3, ?_⟩
      simp [m__law_number, f__law_number, N__law_number, startE, r1, a, b, r6, e1, j4]
theorem la_1 {a0 a2 a4 a5 a6 a7 : Option Sl} : ∀ (ms : List Nat) (S : Store) (x : Option Sl), Cup S → (∀ m ∈ ms, 1 ≤ m ∧ m ≤ 500) → ∃ S' x', Cup S' ∧
    forL (gN 3) (fb1_law fuel) (ms.map fun m : Nat => D.int m) [a0, some (.fz (.hd 0)), a2, x, a4, a5, a6, a7] S = .nx [a0, some (.fz (.hd 0)), a2, x', a4, a5, a6, a7] S'
  | [], S, x, hc, _ => ⟨S, x, hc, rfl⟩
  | m :: ms, S, x, hc, h => by
    obtain ⟨m1, m2⟩ := h m (List.mem_cons_self ..)
    obtain ⟨S1, n, c1, n1, n2, e1⟩ := law_number hc m1 (by omega : m ≤ 900)
    obtain ⟨S2, t, c2, ht, e2⟩ := times_of c1
    obtain ⟨S3, c3, e3⟩ := law_right c2 n1 (by omega : n ≤ 500) ht.1 ht.2
    obtain ⟨S', x', i1, i2⟩ := la_1 (a0 := a0) (a2 := a2) (a4 := a4) (a5 := a5) (a6 := a6) (a7 := a7) ms S3 (some (.fz (.int m))) c3 fun v hv => h v (List.mem_cons_of_mem _ hv)
    refine ⟨S', x', i1, ?_⟩
    rw [List.map_cons, for_nx (E1 := [a0, some (.fz (.hd 0)), a2, some (.fz (.int m)), a4, a5, a6, a7]) (E2 := [a0, some (.fz (.hd 0)), a2, some (.fz (.int m)), a4, a5, a6, a7]) (S2 := S3) rfl ?_]
    · exact i2
    · simp [fb1_law, e1, e2, e3]
theorem la_2 {a0 a2 a4 a5 a6 a7 : Option Sl} : ∀ (ms : List Nat) (S : Store) (x : Option Sl), Cup S → (∀ m ∈ ms, 1 ≤ m ∧ m ≤ 500) → ∃ S' x', Cup S' ∧
    forL (gN 3) (fb2_law fuel) (ms.map fun m : Nat => D.int m) [a0, some (.fz (.hd 0)), a2, x, a4, a5, a6, a7] S = .nx [a0, some (.fz (.hd 0)), a2, x', a4, a5, a6, a7] S'
  | [], S, x, hc, _ => ⟨S, x, hc, rfl⟩
  | m :: ms, S, x, hc, h => by
    obtain ⟨m1, m2⟩ := h m (List.mem_cons_self ..)
    obtain ⟨S1, n, c1, n1, n2, e1⟩ := law_number hc m1 (by omega : m ≤ 900)
    obtain ⟨S2, t, c2, ht, e2⟩ := times_of c1
    obtain ⟨S3, c3, e3⟩ := law_ways_right c2 n1 (by omega : n ≤ 500) ht.1 ht.2
    obtain ⟨S', x', i1, i2⟩ := la_2 (a0 := a0) (a2 := a2) (a4 := a4) (a5 := a5) (a6 := a6) (a7 := a7) ms S3 (some (.fz (.int m))) c3 fun v hv => h v (List.mem_cons_of_mem _ hv)
    refine ⟨S', x', i1, ?_⟩
    rw [List.map_cons, for_nx (E1 := [a0, some (.fz (.hd 0)), a2, some (.fz (.int m)), a4, a5, a6, a7]) (E2 := [a0, some (.fz (.hd 0)), a2, some (.fz (.int m)), a4, a5, a6, a7]) (S2 := S3) rfl ?_]
    · exact i2
    · simp [fb2_law, e1, e2, e3]
theorem own_ok {d : D} (h : d ∈ [D.int 2, .int 4, .int 6, .int 10, .int 12]) : ∃ k : Int, d = .int k ∧ (∀ S, m_least_terms [.int (k + 1), .int k] S = .ok (.int k) S) ∧ ∀ S, m_power_rests [.int (k + 1), .int k] S = .ok (.tup [.int 0, .int 1]) S := by
  simp only [List.mem_cons, List.not_mem_nil, or_false] at h
  rcases h with rfl | rfl | rfl | rfl | rfl
  · exact ⟨2, rfl, own2, pr2⟩
  · exact ⟨4, rfl, own4, pr4⟩
  · exact ⟨6, rfl, own6, pr6⟩
  · exact ⟨10, rfl, own10, pr10⟩
  · exact ⟨12, rfl, own12, pr12⟩
theorem dbl_ok {d : D} (h : d ∈ [D.int 3, .int 5, .int 6, .int 8, .int 9, .int 11]) : ∃ k : Int, d = .int k ∧ (∀ S, m_least_terms [.int (2 * k + 1), .int k] S = .ok (.int k) S) ∧ ∀ S, m_power_rests [.int (2 * k + 1), .int k] S = .ok (.tup [.int 0, .int 1, .int (2 * k)]) S := by
  simp only [List.mem_cons, List.not_mem_nil, or_false] at h
  rcases h with rfl | rfl | rfl | rfl | rfl | rfl
  · exact ⟨3, rfl, db3, pd3⟩
  · exact ⟨5, rfl, db5, pd5⟩
  · exact ⟨6, rfl, db6, pd6⟩
  · exact ⟨8, rfl, db8, pd8⟩
  · exact ⟨9, rfl, db9, pd9⟩
  · exact ⟨11, rfl, db11, pd11⟩
theorem p15_ok {d : D} (h : d ∈ few15.map fun k : Nat => D.int k) : ∃ k : Nat, k ∈ few15 ∧ d = .int k := by
  obtain ⟨k, hk, rfl⟩ := List.mem_map.mp h
  exact ⟨k, hk, rfl⟩
theorem law_true (ns : List Int) (hn : ns.length ≤ 63) : ∃ S, m_law [.scr ns] [] = .ok (.bl true) S := by
  obtain ⟨S0, q0, c0⟩ := law_cup hn
  have ad1 : gAdd (.lst [.int 3, .int 4, .int 15, .int 1, .tup [.int 0, .int 1, .int 2, .int 7, .int 8], .tup [.int 0]]) (.lst [.bl true, .bl false, .bl false, .int 19]) = some (.lst [.int 3, .int 4, .int 15, .int 1, .tup [.int 0, .int 1, .int 2, .int 7, .int 8], .tup [.int 0], .bl true, .bl false, .bl false, .int 19]) := o_addL (by decide)
  have ad2 : gAdd (.lst [.int 3, .int 4, .int 15, .int 1, .tup [.int 0, .int 1, .int 2, .int 7, .int 8], .tup [.int 0], .bl true, .bl false, .bl false, .int 19]) (.lst [.int 4, .int 1]) = some (.lst [.int 3, .int 4, .int 15, .int 1, .tup [.int 0, .int 1, .int 2, .int 7, .int 8], .tup [.int 0], .bl true, .bl false, .bl false, .int 19, .int 4, .int 1]) := o_addL (by decide)
  have lkT : ∀ S, m__law_like [.lst [.int 3, .int 4, .int 15, .int 1, .tup [.int 0, .int 1, .int 2, .int 7, .int 8], .tup [.int 0], .bl true, .bl false, .bl false, .int 19, .int 4, .int 1], .lst [.int 3, .int 4, .int 15, .int 1, .tup [.int 0, .int 1, .int 2, .int 7, .int 8], .tup [.int 0], .bl true, .bl false, .bl false, .int 19, .int 4, .int 1]] S = .ok (.bl true) S := fun S => like rfl
  obtain ⟨S1, x1, c1, l1⟩ := la_1 (a0 := some (.fz (.scr ns))) (a2 := some (.fz (.lst [.int 3, .int 4, .int 15, .int 1, .tup [.int 0, .int 1, .int 2, .int 7, .int 8], .tup [.int 0], .bl true, .bl false, .bl false, .int 19, .int 4, .int 1]))) (a4 := none) (a5 := none) (a6 := none) (a7 := none) [3, 20, 60, 120] S0 none c0 (by decide)
  obtain ⟨S2, x2, c2, l2⟩ := la_2 (a0 := some (.fz (.scr ns))) (a2 := some (.fz (.lst [.int 3, .int 4, .int 15, .int 1, .tup [.int 0, .int 1, .int 2, .int 7, .int 8], .tup [.int 0], .bl true, .bl false, .bl false, .int 19, .int 4, .int 1]))) (a4 := none) (a5 := none) (a6 := none) (a7 := none) [4, 12, 40] S1 x1 c1 (by decide)
  obtain ⟨S3, c3, q3⟩ := law_primes_right c2
  obtain ⟨S4, d4, c4, m4, q4⟩ := law_some (l := few15.map fun k : Nat => D.int k) c3 (by decide) (by decide)
  obtain ⟨p, hp, rfl⟩ := p15_ok m4
  have q4 : m__law_some [.hd 0, .lst [.int 2, .int 3, .int 5, .int 7, .int 11, .int 13, .int 17, .int 19, .int 23, .int 29, .int 31, .int 37, .int 41, .int 101, .int 499]] S3 = .ok (.int p) S4 := q4
  obtain ⟨S5, t, c5, ht, q5⟩ := times_of c4
  obtain ⟨J, hJ, q6⟩ := few_terms (S := S5) hp ht.1 ht.2
  have hJ : ¬ (t : Int) < (J : Int) := by omega
  obtain ⟨S6, d6, c6, m6, q7⟩ := law_some (l := [.int 2, .int 4, .int 6, .int 10, .int 12]) c5 (by decide) (by decide)
  obtain ⟨k, rfl, k1, k2⟩ := own_ok m6
  have lk1 : ∀ S, m__law_like [.lst [.int k, .tup [.int 0, .int 1]], .lst [.int k, .tup [.int 0, .int 1]]] S = .ok (.bl true) S := fun S => like rfl
  obtain ⟨S7, d7, c7, m7, q8⟩ := law_some (l := [.int 3, .int 5, .int 6, .int 8, .int 9, .int 11]) c6 (by decide) (by decide)
  obtain ⟨d, rfl, d1, d2⟩ := dbl_ok m7
  have lk2 : ∀ S, m__law_like [.lst [.int d, .tup [.int 0, .int 1, .int (2 * d)]], .lst [.int d, .tup [.int 0, .int 1, .int (2 * d)]]] S = .ok (.bl true) S := fun S => like rfl
  have mk : mulOk 2 d = true := mulOk_l (by decide)
  have ml : gMul (.int 2) (.int d) = some (.int (2 * d)) := by
    show (if mulOk 2 d = true then some (D.int (2 * d)) else none) = _
    rw [if_pos mk]
  have st0 : (fSet 1 (fCall m__law_cup (fCons (fVar 0) fNil))) fuel [some (.fz (.scr ns)), none, none, none, none, none, none, none] [] = .nx [some (.fz (.scr ns)), some (.fz (.hd 0)), none, none, none, none, none, none] S0 := by
    simp [q0]
  have st1 : (fSet 2 (fLst (fCons (fCall m_least_terms (fCons (fC (.int 7)) (fCons (fC (.int 3)) fNil))) (fCons (fCall m_least_terms (fCons (fC (.int 9)) (fCons (fC (.int 3)) fNil))) (fCons (fCall m_least_terms (fCons (fC (.int 16)) (fCons (fC (.int 4)) fNil))) (fCons (fCall m_least_terms (fCons (fC (.int 1)) (fCons (fC (.int 2)) fNil))) (fCons (fCall m_rests_of_sums (fCons (fC (.int 9)) (fCons (fC (.int 3)) (fCons (fC (.int 2)) fNil)))) (fCons (fCall m_power_terms (fCons (fC (.int 7)) (fCons (fC (.int 2)) (fCons (fC (.int 0)) fNil)))) fNil)))))))) fuel [some (.fz (.scr ns)), some (.fz (.hd 0)), none, none, none, none, none, none] S0 = .nx [some (.fz (.scr ns)), some (.fz (.hd 0)), some (.fz (.lst [.int 3, .int 4, .int 15, .int 1, .tup [.int 0, .int 1, .int 2, .int 7, .int 8], .tup [.int 0]])), none, none, none, none, none] S0 := by
    simp [ex1, ex2, ex3, ex4, ex5, ex6]
  have st2 : (fSet 2 (fOp gAdd (fRd 2) (fLst (fCons (fCall m_are_power_terms (fCons (fC (.int 7)) (fCons (fC (.int 3)) (fCons (fC (.int 3)) (fCons (fTup (fCons (fC (.int 1)) (fCons (fC (.int 2)) (fCons (fC (.int 4)) fNil)))) fNil))))) (fCons (fCall m_are_power_terms (fCons (fC (.int 7)) (fCons (fC (.int 3)) (fCons (fC (.int 1)) (fCons (fTup (fCons (fC (.int 1)) (fCons (fC (.int 0)) fNil))) fNil))))) (fCons (fCall m_are_power_terms (fCons (fC (.int 7)) (fCons (fC (.int 3)) (fCons (fC (.int 1)) (fCons (fTup (fCons (fC (.int 3)) fNil)) fNil))))) (fCons (fCall m_count_power_sums (fCons (fC (.int 7)) (fCons (fC (.int 3)) (fCons (fC (.int 2)) (fCons (fC (.int 0)) fNil))))) fNil))))))) fuel [some (.fz (.scr ns)), some (.fz (.hd 0)), some (.fz (.lst [.int 3, .int 4, .int 15, .int 1, .tup [.int 0, .int 1, .int 2, .int 7, .int 8], .tup [.int 0]])), none, none, none, none, none] S0 = .nx [some (.fz (.scr ns)), some (.fz (.hd 0)), some (.fz (.lst [.int 3, .int 4, .int 15, .int 1, .tup [.int 0, .int 1, .int 2, .int 7, .int 8], .tup [.int 0], .bl true, .bl false, .bl false, .int 19])), none, none, none, none, none] S0 := by
    simp [ex7, ex8, ex9, ex10, ad1]
  have st3 : (fSet 2 (fOp gAdd (fRd 2) (fLst (fCons (fCall m_count_power_sums (fCons (fC (.int 5)) (fCons (fC (.int 2)) (fCons (fC (.int 2)) (fCons (fC (.int 1)) fNil))))) (fCons (fCall m_count_power_sums (fCons (fC (.int 1)) (fCons (fC (.int 2)) (fCons (fC (.int 3)) (fCons (fC (.int 0)) fNil))))) fNil))))) fuel [some (.fz (.scr ns)), some (.fz (.hd 0)), some (.fz (.lst [.int 3, .int 4, .int 15, .int 1, .tup [.int 0, .int 1, .int 2, .int 7, .int 8], .tup [.int 0], .bl true, .bl false, .bl false, .int 19])), none, none, none, none, none] S0 = .nx [some (.fz (.scr ns)), some (.fz (.hd 0)), some (.fz (.lst [.int 3, .int 4, .int 15, .int 1, .tup [.int 0, .int 1, .int 2, .int 7, .int 8], .tup [.int 0], .bl true, .bl false, .bl false, .int 19, .int 4, .int 1])), none, none, none, none, none] S0 := by
    simp [ex11, ex12, ad2]
  have st4 : (fIfS (fNotT (fBool (fCall m__law_like (fCons (fVar 2) (fCons (fLst (fCons (fC (.int 3)) (fCons (fC (.int 4)) (fCons (fC (.int 15)) (fCons (fC (.int 1)) (fCons (fTup (fCons (fC (.int 0)) (fCons (fC (.int 1)) (fCons (fC (.int 2)) (fCons (fC (.int 7)) (fCons (fC (.int 8)) fNil)))))) (fCons (fTup (fCons (fC (.int 0)) fNil)) (fCons (fC (.bl true)) (fCons (fC (.bl false)) (fCons (fC (.bl false)) (fCons (fC (.int 19)) (fCons (fC (.int 4)) (fCons (fC (.int 1)) fNil))))))))))))) fNil))))) (fRet (fC (.bl false))) fSkip) fuel [some (.fz (.scr ns)), some (.fz (.hd 0)), some (.fz (.lst [.int 3, .int 4, .int 15, .int 1, .tup [.int 0, .int 1, .int 2, .int 7, .int 8], .tup [.int 0], .bl true, .bl false, .bl false, .int 19, .int 4, .int 1])), none, none, none, none, none] S0 = .nx [some (.fz (.scr ns)), some (.fz (.hd 0)), some (.fz (.lst [.int 3, .int 4, .int 15, .int 1, .tup [.int 0, .int 1, .int 2, .int 7, .int 8], .tup [.int 0], .bl true, .bl false, .bl false, .int 19, .int 4, .int 1])), none, none, none, none, none] S0 := by
    simp [lkT]
  have st5 : (fFor (fIt (fTup (fCons (fC (.int 3)) (fCons (fC (.int 20)) (fCons (fC (.int 60)) (fCons (fC (.int 120)) fNil)))))) (gN 3) (fb1_law)) fuel [some (.fz (.scr ns)), some (.fz (.hd 0)), some (.fz (.lst [.int 3, .int 4, .int 15, .int 1, .tup [.int 0, .int 1, .int 2, .int 7, .int 8], .tup [.int 0], .bl true, .bl false, .bl false, .int 19, .int 4, .int 1])), none, none, none, none, none] S0 = .nx [some (.fz (.scr ns)), some (.fz (.hd 0)), some (.fz (.lst [.int 3, .int 4, .int 15, .int 1, .tup [.int 0, .int 1, .int 2, .int 7, .int 8], .tup [.int 0], .bl true, .bl false, .bl false, .int 19, .int 4, .int 1])), x1, none, none, none, none] S1 := by
    simp only [e_For, fIt, e_Tup, e_Cons, e_Nil, e_C, e_bind_ok]
    simpa using l1
  have st6 : (fFor (fIt (fTup (fCons (fC (.int 4)) (fCons (fC (.int 12)) (fCons (fC (.int 40)) fNil))))) (gN 3) (fb2_law)) fuel [some (.fz (.scr ns)), some (.fz (.hd 0)), some (.fz (.lst [.int 3, .int 4, .int 15, .int 1, .tup [.int 0, .int 1, .int 2, .int 7, .int 8], .tup [.int 0], .bl true, .bl false, .bl false, .int 19, .int 4, .int 1])), x1, none, none, none, none] S1 = .nx [some (.fz (.scr ns)), some (.fz (.hd 0)), some (.fz (.lst [.int 3, .int 4, .int 15, .int 1, .tup [.int 0, .int 1, .int 2, .int 7, .int 8], .tup [.int 0], .bl true, .bl false, .bl false, .int 19, .int 4, .int 1])), x2, none, none, none, none] S2 := by
    simp only [e_For, fIt, e_Tup, e_Cons, e_Nil, e_C, e_bind_ok]
    simpa using l2
  have st7 : (fIfS (fNotT (fBool (fCall m__law_primes_right (fCons (fVar 1) fNil)))) (fRet (fC (.bl false))) fSkip) fuel [some (.fz (.scr ns)), some (.fz (.hd 0)), some (.fz (.lst [.int 3, .int 4, .int 15, .int 1, .tup [.int 0, .int 1, .int 2, .int 7, .int 8], .tup [.int 0], .bl true, .bl false, .bl false, .int 19, .int 4, .int 1])), x2, none, none, none, none] S2 = .nx [some (.fz (.scr ns)), some (.fz (.hd 0)), some (.fz (.lst [.int 3, .int 4, .int 15, .int 1, .tup [.int 0, .int 1, .int 2, .int 7, .int 8], .tup [.int 0], .bl true, .bl false, .bl false, .int 19, .int 4, .int 1])), x2, none, none, none, none] S3 := by
    simp [q3]
  have st8 : (fSet 4 (fCall m__law_some (fCons (fVar 1) (fCons (fLst (fCons (fC (.int 2)) (fCons (fC (.int 3)) (fCons (fC (.int 5)) (fCons (fC (.int 7)) (fCons (fC (.int 11)) (fCons (fC (.int 13)) (fCons (fC (.int 17)) (fCons (fC (.int 19)) (fCons (fC (.int 23)) (fCons (fC (.int 29)) (fCons (fC (.int 31)) (fCons (fC (.int 37)) (fCons (fC (.int 41)) (fCons (fC (.int 101)) (fCons (fC (.int 499)) fNil)))))))))))))))) fNil)))) fuel [some (.fz (.scr ns)), some (.fz (.hd 0)), some (.fz (.lst [.int 3, .int 4, .int 15, .int 1, .tup [.int 0, .int 1, .int 2, .int 7, .int 8], .tup [.int 0], .bl true, .bl false, .bl false, .int 19, .int 4, .int 1])), x2, none, none, none, none] S3 = .nx [some (.fz (.scr ns)), some (.fz (.hd 0)), some (.fz (.lst [.int 3, .int 4, .int 15, .int 1, .tup [.int 0, .int 1, .int 2, .int 7, .int 8], .tup [.int 0], .bl true, .bl false, .bl false, .int 19, .int 4, .int 1])), x2, some (.fz (.int p)), none, none, none] S4 := by
    simp [q4]
  have st9 : (fSet 5 (fCall m__law_times_of (fCons (fVar 1) fNil))) fuel [some (.fz (.scr ns)), some (.fz (.hd 0)), some (.fz (.lst [.int 3, .int 4, .int 15, .int 1, .tup [.int 0, .int 1, .int 2, .int 7, .int 8], .tup [.int 0], .bl true, .bl false, .bl false, .int 19, .int 4, .int 1])), x2, some (.fz (.int p)), none, none, none] S4 = .nx [some (.fz (.scr ns)), some (.fz (.hd 0)), some (.fz (.lst [.int 3, .int 4, .int 15, .int 1, .tup [.int 0, .int 1, .int 2, .int 7, .int 8], .tup [.int 0], .bl true, .bl false, .bl false, .int 19, .int 4, .int 1])), x2, some (.fz (.int p)), some (.fz (.int t)), none, none] S5 := by
    simp [q5]
  have st10 : (fIfS (fBool (fOp gGt (fCall m_least_terms (fCons (fVar 4) (fCons (fVar 5) fNil))) (fRd 5))) (fRet (fC (.bl false))) fSkip) fuel [some (.fz (.scr ns)), some (.fz (.hd 0)), some (.fz (.lst [.int 3, .int 4, .int 15, .int 1, .tup [.int 0, .int 1, .int 2, .int 7, .int 8], .tup [.int 0], .bl true, .bl false, .bl false, .int 19, .int 4, .int 1])), x2, some (.fz (.int p)), some (.fz (.int t)), none, none] S5 = .nx [some (.fz (.scr ns)), some (.fz (.hd 0)), some (.fz (.lst [.int 3, .int 4, .int 15, .int 1, .tup [.int 0, .int 1, .int 2, .int 7, .int 8], .tup [.int 0], .bl true, .bl false, .bl false, .int 19, .int 4, .int 1])), x2, some (.fz (.int p)), some (.fz (.int t)), none, none] S5 := by
    simp [q6, hJ]
  have st11 : (fSet 6 (fCall m__law_some (fCons (fVar 1) (fCons (fLst (fCons (fC (.int 2)) (fCons (fC (.int 4)) (fCons (fC (.int 6)) (fCons (fC (.int 10)) (fCons (fC (.int 12)) fNil)))))) fNil)))) fuel [some (.fz (.scr ns)), some (.fz (.hd 0)), some (.fz (.lst [.int 3, .int 4, .int 15, .int 1, .tup [.int 0, .int 1, .int 2, .int 7, .int 8], .tup [.int 0], .bl true, .bl false, .bl false, .int 19, .int 4, .int 1])), x2, some (.fz (.int p)), some (.fz (.int t)), none, none] S5 = .nx [some (.fz (.scr ns)), some (.fz (.hd 0)), some (.fz (.lst [.int 3, .int 4, .int 15, .int 1, .tup [.int 0, .int 1, .int 2, .int 7, .int 8], .tup [.int 0], .bl true, .bl false, .bl false, .int 19, .int 4, .int 1])), x2, some (.fz (.int p)), some (.fz (.int t)), some (.fz (.int k)), none] S6 := by
    simp [q7]
  have st12 : (fIfS (fNotT (fBool (fCall m__law_like (fCons (fLst (fCons (fCall m_least_terms (fCons (fOp gAdd (fRd 6) (fC (.int 1))) (fCons (fVar 6) fNil))) (fCons (fCall m_power_rests (fCons (fOp gAdd (fRd 6) (fC (.int 1))) (fCons (fVar 6) fNil))) fNil))) (fCons (fLst (fCons (fVar 6) (fCons (fTup (fCons (fC (.int 0)) (fCons (fC (.int 1)) fNil))) fNil))) fNil))))) (fRet (fC (.bl false))) fSkip) fuel [some (.fz (.scr ns)), some (.fz (.hd 0)), some (.fz (.lst [.int 3, .int 4, .int 15, .int 1, .tup [.int 0, .int 1, .int 2, .int 7, .int 8], .tup [.int 0], .bl true, .bl false, .bl false, .int 19, .int 4, .int 1])), x2, some (.fz (.int p)), some (.fz (.int t)), some (.fz (.int k)), none] S6 = .nx [some (.fz (.scr ns)), some (.fz (.hd 0)), some (.fz (.lst [.int 3, .int 4, .int 15, .int 1, .tup [.int 0, .int 1, .int 2, .int 7, .int 8], .tup [.int 0], .bl true, .bl false, .bl false, .int 19, .int 4, .int 1])), x2, some (.fz (.int p)), some (.fz (.int t)), some (.fz (.int k)), none] S6 := by
    simp [k1, k2, lk1]
  have st13 : (fSet 7 (fCall m__law_some (fCons (fVar 1) (fCons (fLst (fCons (fC (.int 3)) (fCons (fC (.int 5)) (fCons (fC (.int 6)) (fCons (fC (.int 8)) (fCons (fC (.int 9)) (fCons (fC (.int 11)) fNil))))))) fNil)))) fuel [some (.fz (.scr ns)), some (.fz (.hd 0)), some (.fz (.lst [.int 3, .int 4, .int 15, .int 1, .tup [.int 0, .int 1, .int 2, .int 7, .int 8], .tup [.int 0], .bl true, .bl false, .bl false, .int 19, .int 4, .int 1])), x2, some (.fz (.int p)), some (.fz (.int t)), some (.fz (.int k)), none] S6 = .nx [some (.fz (.scr ns)), some (.fz (.hd 0)), some (.fz (.lst [.int 3, .int 4, .int 15, .int 1, .tup [.int 0, .int 1, .int 2, .int 7, .int 8], .tup [.int 0], .bl true, .bl false, .bl false, .int 19, .int 4, .int 1])), x2, some (.fz (.int p)), some (.fz (.int t)), some (.fz (.int k)), some (.fz (.int d))] S7 := by
    simp [q8]
  have stz : (fRet (fCall m__law_like (fCons (fLst (fCons (fCall m_least_terms (fCons (fOp gAdd (fOp gMul (fC (.int 2)) (fRd 7)) (fC (.int 1))) (fCons (fVar 7) fNil))) (fCons (fCall m_power_rests (fCons (fOp gAdd (fOp gMul (fC (.int 2)) (fRd 7)) (fC (.int 1))) (fCons (fVar 7) fNil))) fNil))) (fCons (fLst (fCons (fVar 7) (fCons (fTup (fCons (fC (.int 0)) (fCons (fC (.int 1)) (fCons (fOp gMul (fC (.int 2)) (fRd 7)) fNil)))) fNil))) fNil)))) fuel [some (.fz (.scr ns)), some (.fz (.hd 0)), some (.fz (.lst [.int 3, .int 4, .int 15, .int 1, .tup [.int 0, .int 1, .int 2, .int 7, .int 8], .tup [.int 0], .bl true, .bl false, .bl false, .int 19, .int 4, .int 1])), x2, some (.fz (.int p)), some (.fz (.int t)), some (.fz (.int k)), some (.fz (.int d))] S7 = .rt (.bl true) S7 := by
    simp [ml, d1, d2, lk2]
  have e0 : startE N_law [.scr ns] = [some (.fz (.scr ns)), none, none, none, none, none, none, none] := rfl
  refine ⟨S7, ?_⟩
  show bodyR (f_law fuel (startE N_law [.scr ns]) []) = _
  unfold f_law
  rw [e0, seq_nx st0, seq_nx st1, seq_nx st2, seq_nx st3, seq_nx st4, seq_nx st5, seq_nx st6, seq_nx st7, seq_nx st8, seq_nx st9, seq_nx st10, seq_nx st11, seq_nx st12, seq_nx st13, stz]
  rfl
end LW

end

section
set_option autoImplicit true
namespace LW
open PySem PySem.Spec PyProof.Rows L2 DL
def topS (i : Nat) : Stmt := PySem.Challenge.pw_primessure_k82_whole_sums_of_powers.main.body.getD i (.Pass ⟨0, 0, 0, 0⟩)
abbrev s_is_integer : Stmt := topS 6
def d_is_integer : He.DefD := ⟨("is_integer", none), "is_integer", "is_integer", defArgs s_is_integer, defBody s_is_integer, defScope s_is_integer, [], []⟩
abbrev s_is_whole : Stmt := topS 7
def d_is_whole : He.DefD := ⟨("is_whole", none), "is_whole", "is_whole", defArgs s_is_whole, defBody s_is_whole, defScope s_is_whole, [], []⟩
abbrev s_need_whole : Stmt := topS 8
def d_need_whole : He.DefD := ⟨("need_whole", none), "need_whole", "need_whole", defArgs s_need_whole, defBody s_need_whole, defScope s_need_whole, [], []⟩
abbrev s_is_tuple_of : Stmt := topS 9
def d_is_tuple_of : He.DefD := ⟨("is_tuple_of", none), "is_tuple_of", "is_tuple_of", defArgs s_is_tuple_of, defBody s_is_tuple_of, defScope s_is_tuple_of, [], []⟩
abbrev s_power_in : Stmt := topS 10
def d_power_in : He.DefD := ⟨("power_in", none), "power_in", "power_in", defArgs s_power_in, defBody s_power_in, defScope s_power_in, [], []⟩
abbrev s_need_times : Stmt := topS 15
def d_need_times : He.DefD := ⟨("need_times", none), "need_times", "need_times", defArgs s_need_times, defBody s_need_times, defScope s_need_times, [], []⟩
abbrev s_need_rest : Stmt := topS 16
def d_need_rest : He.DefD := ⟨("need_rest", none), "need_rest", "need_rest", defArgs s_need_rest, defBody s_need_rest, defScope s_need_rest, [], []⟩
abbrev s_power_rests : Stmt := topS 17
def d_power_rests : He.DefD := ⟨("power_rests", none), "power_rests", "power_rests", defArgs s_power_rests, defBody s_power_rests, defScope s_power_rests, [], []⟩
abbrev s_powers_in : Stmt := topS 22
def d_powers_in : He.DefD := ⟨("powers_in", none), "powers_in", "powers_in", defArgs s_powers_in, defBody s_powers_in, defScope s_powers_in, [], []⟩
abbrev s_fewest_in : Stmt := topS 23
def d_fewest_in : He.DefD := ⟨("fewest_in", none), "fewest_in", "fewest_in", defArgs s_fewest_in, defBody s_fewest_in, defScope s_fewest_in, [], []⟩
abbrev s_sums_of : Stmt := topS 24
def d_sums_of : He.DefD := ⟨("sums_of", none), "sums_of", "sums_of", defArgs s_sums_of, defBody s_sums_of, defScope s_sums_of, [], []⟩
abbrev s_terms_in : Stmt := topS 25
def d_terms_in : He.DefD := ⟨("terms_in", none), "terms_in", "terms_in", defArgs s_terms_in, defBody s_terms_in, defScope s_terms_in, [], []⟩
abbrev s_ways_of_sums : Stmt := topS 26
def d_ways_of_sums : He.DefD := ⟨("ways_of_sums", none), "ways_of_sums", "ways_of_sums", defArgs s_ways_of_sums, defBody s_ways_of_sums, defScope s_ways_of_sums, [], []⟩
abbrev s_need_few : Stmt := topS 27
def d_need_few : He.DefD := ⟨("need_few", none), "need_few", "need_few", defArgs s_need_few, defBody s_need_few, defScope s_need_few, [], []⟩
abbrev s_least_terms : Stmt := topS 28
def d_least_terms : He.DefD := ⟨("least_terms", none), "least_terms", "least_terms", defArgs s_least_terms, defBody s_least_terms, defScope s_least_terms, [], []⟩
abbrev s_rests_of_sums : Stmt := topS 29
def d_rests_of_sums : He.DefD := ⟨("rests_of_sums", none), "rests_of_sums", "rests_of_sums", defArgs s_rests_of_sums, defBody s_rests_of_sums, defScope s_rests_of_sums, [], []⟩
abbrev s_power_terms : Stmt := topS 30
def d_power_terms : He.DefD := ⟨("power_terms", none), "power_terms", "power_terms", defArgs s_power_terms, defBody s_power_terms, defScope s_power_terms, [], []⟩
abbrev s_are_power_terms : Stmt := topS 31
def d_are_power_terms : He.DefD := ⟨("are_power_terms", none), "are_power_terms", "are_power_terms", defArgs s_are_power_terms, defBody s_are_power_terms, defScope s_are_power_terms, [], []⟩
abbrev s_count_power_sums : Stmt := topS 32
def d_count_power_sums : He.DefD := ⟨("count_power_sums", none), "count_power_sums", "count_power_sums", defArgs s_count_power_sums, defBody s_count_power_sums, defScope s_count_power_sums, [], []⟩
abbrev s__law_cup : Stmt := topS 34
def d__law_cup : He.DefD := ⟨("_law_cup", none), "_law_cup", "_law_cup", defArgs s__law_cup, defBody s__law_cup, defScope s__law_cup, [], []⟩
abbrev s__law_roll : Stmt := topS 35
def d__law_roll : He.DefD := ⟨("_law_roll", none), "_law_roll", "_law_roll", defArgs s__law_roll, defBody s__law_roll, defScope s__law_roll, [], []⟩
abbrev s__law_some : Stmt := topS 36
def d__law_some : He.DefD := ⟨("_law_some", none), "_law_some", "_law_some", defArgs s__law_some, defBody s__law_some, defScope s__law_some, [], []⟩
abbrev s__law_sort : Stmt := topS 37
def d__law_sort : He.DefD := ⟨("_law_sort", none), "_law_sort", "_law_sort", defArgs s__law_sort, defBody s__law_sort, defScope s__law_sort, [], []⟩
abbrev s__law_like : Stmt := topS 38
def d__law_like : He.DefD := ⟨("_law_like", none), "_law_like", "_law_like", defArgs s__law_like, defBody s__law_like, defScope s__law_like, [], []⟩
abbrev s__law_is_prime : Stmt := topS 39
def d__law_is_prime : He.DefD := ⟨("_law_is_prime", none), "_law_is_prime", "_law_is_prime", defArgs s__law_is_prime, defBody s__law_is_prime, defScope s__law_is_prime, [], []⟩
abbrev s__law_power : Stmt := topS 40
def d__law_power : He.DefD := ⟨("_law_power", none), "_law_power", "_law_power", defArgs s__law_power, defBody s__law_power, defScope s__law_power, [], []⟩
abbrev s__law_number : Stmt := topS 41
def d__law_number : He.DefD := ⟨("_law_number", none), "_law_number", "_law_number", defArgs s__law_number, defBody s__law_number, defScope s__law_number, [], []⟩
abbrev s__law_times_of : Stmt := topS 42
def d__law_times_of : He.DefD := ⟨("_law_times_of", none), "_law_times_of", "_law_times_of", defArgs s__law_times_of, defBody s__law_times_of, defScope s__law_times_of, [], []⟩
abbrev s__law_sums : Stmt := topS 43
def d__law_sums : He.DefD := ⟨("_law_sums", none), "_law_sums", "_law_sums", defArgs s__law_sums, defBody s__law_sums, defScope s__law_sums, [], []⟩
abbrev s__law_right : Stmt := topS 44
def d__law_right : He.DefD := ⟨("_law_right", none), "_law_right", "_law_right", defArgs s__law_right, defBody s__law_right, defScope s__law_right, [], []⟩
abbrev s__law_ways_right : Stmt := topS 45
def d__law_ways_right : He.DefD := ⟨("_law_ways_right", none), "_law_ways_right", "_law_ways_right", defArgs s__law_ways_right, defBody s__law_ways_right, defScope s__law_ways_right, [], []⟩
abbrev s__law_primes_right : Stmt := topS 46
def d__law_primes_right : He.DefD := ⟨("_law_primes_right", none), "_law_primes_right", "_law_primes_right", defArgs s__law_primes_right, defBody s__law_primes_right, defScope s__law_primes_right, [], []⟩
abbrev s_law : Stmt := topS 47
def d_law : He.DefD := ⟨("law", none), "law", "law", defArgs s_law, defBody s_law, defScope s_law, [], []⟩
def fn : List He.DefD := ([d_is_integer, d_is_whole, d_need_whole, d_is_tuple_of, d_power_in, d_need_times, d_need_rest, d_power_rests, d_powers_in, d_fewest_in, d_sums_of, d_terms_in, d_ways_of_sums, d_need_few, d_least_terms, d_rests_of_sums, d_power_terms, d_are_power_terms, d_count_power_sums, d__law_cup, d__law_roll, d__law_some, d__law_sort, d__law_like, d__law_is_prime, d__law_power, d__law_number, d__law_times_of, d__law_sums, d__law_right, d__law_ways_right, d__law_primes_right, d_law] : List He.DefD)
def fa : List He.Fa := ([.glo "is_integer", .glo "is_whole", .glo "need_whole", .glo "is_tuple_of", .glo "power_in", .glo "need_times", .glo "need_rest", .glo "power_rests", .glo "powers_in", .glo "fewest_in", .glo "sums_of", .glo "terms_in", .glo "ways_of_sums", .glo "need_few", .glo "least_terms", .glo "rests_of_sums", .glo "power_terms", .glo "are_power_terms", .glo "count_power_sums", .glo "_law_cup", .glo "_law_roll", .glo "_law_some", .glo "_law_sort", .glo "_law_like", .glo "_law_is_prime", .glo "_law_power", .glo "_law_number", .glo "_law_times_of", .glo "_law_sums", .glo "_law_right", .glo "_law_ways_right", .glo "_law_primes_right", .glo "law", .glo "PrimeError", .glo "InvalidNumber"] : List He.Fa) ++ ([.glo "InvalidRest", .glo "InvalidTimes", .exc "PrimeError", .exc "InvalidNumber", .exc "InvalidRest", .exc "InvalidTimes", .int "LISTED" 10000, .int "LEAST_TIMES" 2, .int "MOST_TIMES" 12, .int "MOST" 500, .int "MANY" 20, .int "TERMS" 12, .free "abs", .free "all", .free "bool", .free "dict", .free "enumerate", .free "int", .free "isinstance", .free "len", .free "list", .free "max", .free "range", .free "set", .free "sorted", .free "str", .free "sum", .free "tuple", .free "zip"] : List He.Fa)
theorem sc_is_integer : FnScope N_is_integer ["value"] (defScope s_is_integer) := ⟨rfl, rfl, rfl, by decide +kernel, rfl, by decide +kernel, by decide +kernel⟩
theorem der_is_integer {P : Program} {w : World} {K : PySem.W.Frag} {mg : Str → Option Value} {base : Heap} (T : Hd fa fn K mg) {X : Cx} {B : Gr} {W : WX} (h : Bd X W P w K mg base 0 N_is_integer (defScope s_is_integer)) : QSs X B W (defBody s_is_integer) f_is_integer := by
  have v0 := h.vr (i := 0) (x := "value") (by rfl) (by decide +kernel)
  have g_bool := h.gl (x := "bool") (by decide +kernel)
  have g_int := h.gl (x := "int") (by decide +kernel)
  have g_isinstance := h.gl (x := "isinstance") (by decide +kernel)
  exact (ss_one (s_ret (q_and (q_cb cq_isi (h.wd.blt (T.free 53 (by rfl)) g_isinstance) boot_isinstance (by decide) (by rfl) (ar_cons (q_rd v0) (ar_cons (QE.qr (q_ty (h.wd.blt (T.free 52 (by rfl)) g_int) boot_int (by decide) (by rfl))) ar_nil (by rfl)) (by rfl)) (by rfl) (by rfl)) (q_one (q_not (q_cb cq_isi (h.wd.blt (T.free 53 (by rfl)) g_isinstance) boot_isinstance (by decide) (by rfl) (ar_cons (q_rd v0) (ar_cons (QE.qr (q_ty (h.wd.blt (T.free 49 (by rfl)) g_bool) boot_bool (by decide) (by rfl))) ar_nil (by rfl)) (by rfl)) (by rfl) (by rfl)))))))

theorem sc_is_whole : FnScope N_is_whole ["value", "low", "high"] (defScope s_is_whole) := ⟨rfl, rfl, rfl, by decide +kernel, rfl, by decide +kernel, by decide +kernel⟩
theorem der_is_whole {P : Program} {w : World} {K : PySem.W.Frag} {mg : Str → Option Value} {base : Heap} (T : Hd fa fn K mg) (c_is_integer : CalleeK P w K mg base "is_integer" 1 1 m_is_integer) {X : Cx} {B : Gr} {W : WX} (h : Bd X W P w K mg base 1 N_is_whole (defScope s_is_whole)) : QSs X B W (defBody s_is_whole) f_is_whole := by
  have v0 := h.vr (i := 0) (x := "value") (by rfl) (by decide +kernel)
  have v1 := h.vr (i := 1) (x := "low") (by rfl) (by decide +kernel)
  have v2 := h.vr (i := 2) (x := "high") (by rfl) (by decide +kernel)
  have g_is_integer := h.gl (x := "is_integer") (by decide +kernel)
  exact (ss_one (s_ret (q_and (q_call (Wd.callee h.wd c_is_integer g_is_integer (by rfl)) (h.wd.room.mono (by omega)) h.cc.tk (a_cons (q_var v0) a_nil (by rfl)) (len_cons len_nil).len (by rfl) (by rfl)) (q_one (q_chain opq_le opq_le (q_rd v1) (q_rd v0) (q_rd v2) (by with_unfolding_all rfl))))))

theorem sc_need_whole : FnScope N_need_whole ["value", "low", "high"] (defScope s_need_whole) := ⟨rfl, rfl, rfl, by decide +kernel, rfl, by decide +kernel, by decide +kernel⟩
theorem der_need_whole {P : Program} {w : World} {K : PySem.W.Frag} {mg : Str → Option Value} {base : Heap} (T : Hd fa fn K mg) (c_is_whole : CalleeK P w K mg base "is_whole" 2 3 m_is_whole) {X : Cx} {B : Gr} {W : WX} (h : Bd X W P w K mg base 2 N_need_whole (defScope s_need_whole)) : QSs X B W (defBody s_need_whole) f_need_whole := by
  have v0 := h.vr (i := 0) (x := "value") (by rfl) (by decide +kernel)
  have v1 := h.vr (i := 1) (x := "low") (by rfl) (by decide +kernel)
  have v2 := h.vr (i := 2) (x := "high") (by rfl) (by decide +kernel)
  have g_InvalidNumber := h.gl (x := "InvalidNumber") (by decide +kernel)
  have g_is_whole := h.gl (x := "is_whole") (by decide +kernel)
  exact (ss_one (s_if (t_not (t_val (q_call (Wd.callee h.wd c_is_whole g_is_whole (by rfl)) (h.wd.room.mono (by omega)) h.cc.tk (a_cons (q_var v0) (a_cons (q_var v1) (a_cons (q_var v2) a_nil (by rfl)) (by rfl)) (by rfl)) (len_cons (len_cons (len_cons len_nil))).len (by rfl) (by rfl)) (fun _ => rfl)))
  (ss_one (s_raise (h.wd.exc g_InvalidNumber (by rfl) (T.glo 34 (by rfl)) (T.exc 38 (by rfl))) h.cc))
  ss_nil))

theorem sc_is_tuple_of : FnScope N_is_tuple_of ["value", "low", "high"] (defScope s_is_tuple_of) := ⟨rfl, rfl, rfl, by decide +kernel, rfl, by decide +kernel, by decide +kernel⟩
theorem der_is_tuple_of {P : Program} {w : World} {K : PySem.W.Frag} {mg : Str → Option Value} {base : Heap} (T : Hd fa fn K mg) {X : Cx} {B : Gr} {W : WX} (h : Bd X W P w K mg base 0 N_is_tuple_of (defScope s_is_tuple_of)) : QSs X B W (defBody s_is_tuple_of) f_is_tuple_of := by
  have v0 := h.vr (i := 0) (x := "value") (by rfl) (by decide +kernel)
  have v1 := h.vr (i := 1) (x := "low") (by rfl) (by decide +kernel)
  have v2 := h.vr (i := 2) (x := "high") (by rfl) (by decide +kernel)
  have g_isinstance := h.gl (x := "isinstance") (by decide +kernel)
  have g_len := h.gl (x := "len") (by decide +kernel)
  have g_tuple := h.gl (x := "tuple") (by decide +kernel)
  exact (ss_one (s_ret (q_and (q_cb cq_isi (h.wd.blt (T.free 53 (by rfl)) g_isinstance) boot_isinstance (by decide) (by rfl) (ar_cons (q_rd v0) (ar_cons (QE.qr (q_ty (h.wd.blt (T.free 62 (by rfl)) g_tuple) boot_tuple (by decide) (by rfl))) ar_nil (by rfl)) (by rfl)) (by rfl) (by rfl)) (q_one (q_chain opq_le opq_le (q_rd v1) (QE.qr (q_cb cq_len (h.wd.blt (T.free 54 (by rfl)) g_len) boot_len (by decide) (by rfl) (ar_cons (q_rd v0) ar_nil (by rfl)) (by rfl) (by rfl))) (q_rd v2) (by with_unfolding_all rfl))))))

theorem sc_power_in : FnScope N_power_in ["one", "times", "great"] (defScope s_power_in) := ⟨rfl, rfl, rfl, by decide +kernel, rfl, by decide +kernel, by decide +kernel⟩
theorem der_power_in {P : Program} {w : World} {K : PySem.W.Frag} {mg : Str → Option Value} {base : Heap} (T : Hd fa fn K mg) {X : Cx} {B : Gr} {W : WX} (h : Bd X W P w K mg base 0 N_power_in (defScope s_power_in)) : QSs X B W (defBody s_power_in) f_power_in := by
  have v0 := h.vr (i := 0) (x := "one") (by rfl) (by decide +kernel)
  have v1 := h.vr (i := 1) (x := "times") (by rfl) (by decide +kernel)
  have v2 := h.vr (i := 2) (x := "great") (by rfl) (by decide +kernel)
  have v3 := h.vr (i := 3) (x := "found") (by rfl) (by decide +kernel)
  have v4 := h.vr (i := 4) (x := "here") (by rfl) (by decide +kernel)
  have v5 := h.vr (i := 5) (x := "left") (by rfl) (by decide +kernel)
  have l3 := h.lr (i := 3) (x := "found") (by rfl) (by decide +kernel)
  have ll3 := h.ll (i := 3) (x := "found") (by rfl) (by decide +kernel)
  have ll4 := h.ll (i := 4) (x := "here") (by rfl) (by decide +kernel)
  have ll5 := h.ll (i := 5) (x := "left") (by rfl) (by decide +kernel)
  exact (ss_cons (s_par3 h.cc ll3 ll4 ll5 (by decide) (by decide) (by decide) (a_cons q_int (a_cons (q_op opq_mod (q_rd v0) (q_rd v2)) (a_cons (q_var v1) a_nil (by rfl)) (by rfl)) (by rfl)) (sw3 h.cc.kd ll3.loc ll4.loc ll5.loc (by decide +kernel) (by rfl) (by rfl) (by rfl) (by rfl) (by rfl)) (by rfl))
 (ss_cons (s_while h.cc (t_cmp opq_gt (by with_unfolding_all rfl) (q_rd v5) (QE.qr q_int))
  (ss_cons (s_if (t_cmp (opq_eq (h.wd).hu) (by with_unfolding_all rfl) (QE.qr (q_op opq_mod (q_rd v5) (QE.qr q_int))) (QE.qr q_int))
  (ss_one (s_set l3 (q_op opq_mod (QE.qr (q_op opq_mul (q_rd v3) (q_rd v4))) (q_rd v2)) (by rfl)))
  ss_nil)
 (ss_one (s_par2 h.cc ll4 ll5 (by decide) (a_cons (q_op opq_mod (QE.qr (q_op opq_mul (q_rd v4) (q_rd v4))) (q_rd v2)) (a_cons (q_op opq_div (q_rd v5) (QE.qr q_int)) a_nil (by rfl)) (by rfl)) (sw2 h.cc.kd ll4.loc ll5.loc (by decide +kernel) (by rfl) (by rfl) (by rfl) (by rfl)) (by rfl)))))
 (ss_one (s_ret (q_op opq_mod (q_rd v3) (q_rd v2))))))

theorem sc_need_times : FnScope N_need_times ["value"] (defScope s_need_times) := ⟨rfl, rfl, rfl, by decide +kernel, rfl, by decide +kernel, by decide +kernel⟩
theorem der_need_times {P : Program} {w : World} {K : PySem.W.Frag} {mg : Str → Option Value} {base : Heap} (T : Hd fa fn K mg) (c_is_whole : CalleeK P w K mg base "is_whole" 2 3 m_is_whole) {X : Cx} {B : Gr} {W : WX} (h : Bd X W P w K mg base 2 N_need_times (defScope s_need_times)) : QSs X B W (defBody s_need_times) f_need_times := by
  have v0 := h.vr (i := 0) (x := "value") (by rfl) (by decide +kernel)
  have g_InvalidTimes := h.gl (x := "InvalidTimes") (by decide +kernel)
  have g_LEAST_TIMES := h.gl (x := "LEAST_TIMES") (by decide +kernel)
  have g_MOST_TIMES := h.gl (x := "MOST_TIMES") (by decide +kernel)
  have g_is_whole := h.gl (x := "is_whole") (by decide +kernel)
  exact (ss_one (s_if (t_not (t_val (q_call (Wd.callee h.wd c_is_whole g_is_whole (by rfl)) (h.wd.room.mono (by omega)) h.cc.tk (a_cons (q_var v0) (a_cons (q_gint g_LEAST_TIMES (h.wd.gint (T.int 42 (by rfl))) (by rfl)) (a_cons (q_gint g_MOST_TIMES (h.wd.gint (T.int 43 (by rfl))) (by rfl)) a_nil (by rfl)) (by rfl)) (by rfl)) (len_cons (len_cons (len_cons len_nil))).len (by rfl) (by rfl)) (fun _ => rfl)))
  (ss_one (s_raise (h.wd.exc g_InvalidTimes (by rfl) (T.glo 36 (by rfl)) (T.exc 40 (by rfl))) h.cc))
  ss_nil))

theorem sc_need_rest : FnScope N_need_rest ["number", "value"] (defScope s_need_rest) := ⟨rfl, rfl, rfl, by decide +kernel, rfl, by decide +kernel, by decide +kernel⟩
theorem der_need_rest {P : Program} {w : World} {K : PySem.W.Frag} {mg : Str → Option Value} {base : Heap} (T : Hd fa fn K mg) (c_is_whole : CalleeK P w K mg base "is_whole" 2 3 m_is_whole) {X : Cx} {B : Gr} {W : WX} (h : Bd X W P w K mg base 2 N_need_rest (defScope s_need_rest)) : QSs X B W (defBody s_need_rest) f_need_rest := by
  have v0 := h.vr (i := 0) (x := "number") (by rfl) (by decide +kernel)
  have v1 := h.vr (i := 1) (x := "value") (by rfl) (by decide +kernel)
  have g_InvalidRest := h.gl (x := "InvalidRest") (by decide +kernel)
  have g_is_whole := h.gl (x := "is_whole") (by decide +kernel)
  exact (ss_one (s_if (t_not (t_val (q_call (Wd.callee h.wd c_is_whole g_is_whole (by rfl)) (h.wd.room.mono (by omega)) h.cc.tk (a_cons (q_var v1) (a_cons q_int (a_cons (q_op opq_sub (q_rd v0) (QE.qr q_int)) a_nil (by rfl)) (by rfl)) (by rfl)) (len_cons (len_cons (len_cons len_nil))).len (by rfl) (by rfl)) (fun _ => rfl)))
  (ss_one (s_raise (h.wd.exc g_InvalidRest (by rfl) (T.glo 35 (by rfl)) (T.exc 39 (by rfl))) h.cc))
  ss_nil))

theorem sc_power_rests : FnScope N_power_rests ["number", "times"] (defScope s_power_rests) := ⟨rfl, rfl, rfl, by decide +kernel, rfl, by decide +kernel, by decide +kernel⟩
theorem der_power_rests {P : Program} {w : World} {K : PySem.W.Frag} {mg : Str → Option Value} {base : Heap} (T : Hd fa fn K mg) (c_need_whole : CalleeK P w K mg base "need_whole" 3 3 m_need_whole) (c_need_times : CalleeK P w K mg base "need_times" 3 1 m_need_times) (c_power_in : CalleeK P w K mg base "power_in" 1 3 m_power_in) {X : Cx} {B : Gr} {W : WX} (h : Bd X W P w K mg base 3 N_power_rests (defScope s_power_rests)) : QSs X B W (defBody s_power_rests) f_power_rests := by
  have v0 := h.vr (i := 0) (x := "number") (by rfl) (by decide +kernel)
  have v1 := h.vr (i := 1) (x := "times") (by rfl) (by decide +kernel)
  have n0 : X.N[0]? = some ("number" : Str) := by rw [h.hN]; rfl
  have k0 : X.env.scope.names.lookup ("number" : Str) = some .cell := by rw [h.hsc]; decide +kernel
  have n1 : X.N[1]? = some ("times" : Str) := by rw [h.hN]; rfl
  have k1 : X.env.scope.names.lookup ("times" : Str) = some .cell := by rw [h.hsc]; decide +kernel
  have n2 : X.N[2]? = some ("rest" : Str) := by rw [h.hN]; rfl
  have g_LISTED := h.gl (x := "LISTED") (by decide +kernel)
  have g_need_times := h.gl (x := "need_times") (by decide +kernel)
  have g_need_whole := h.gl (x := "need_whole") (by decide +kernel)
  have g_range := h.gl (x := "range") (by decide +kernel)
  have g_set := h.gl (x := "set") (by decide +kernel)
  have g_sorted := h.gl (x := "sorted") (by decide +kernel)
  have g_tuple := h.gl (x := "tuple") (by decide +kernel)
  exact (ss_cons (s_exp (q_call (Wd.callee h.wd c_need_whole g_need_whole (by rfl)) (h.wd.room.mono (by omega)) h.cc.tk (a_cons (q_var v0) (a_cons q_int (a_cons (q_gint g_LISTED (h.wd.gint (T.int 41 (by rfl))) (by rfl)) a_nil (by rfl)) (by rfl)) (by rfl)) (len_cons (len_cons (len_cons len_nil))).len (by rfl) (by rfl)) (by rfl))
 (ss_cons (s_exp (q_call (Wd.callee h.wd c_need_times g_need_times (by rfl)) (h.wd.room.mono (by omega)) h.cc.tk (a_cons (q_var v1) a_nil (by rfl)) (len_cons len_nil).len (by rfl) (by rfl)) (by rfl))
 (ss_one (s_ret (q_ct cq_tuple (h.wd.blt (T.free 62 (by rfl)) g_tuple) boot_tuple (by decide) (by rfl) (ar_cons (QE.qr (q_sortedSet h.cc.calm (h.wd.blt (T.free 59 (by rfl)) g_sorted) (h.wd.blt (T.free 58 (by rfl)) g_set) (QE.qr (QF.qe (f_lc h.cc (i_r1 (h.wd.blt (T.free 57 (by rfl)) g_range) (a_cons (q_var v0) a_nil (by rfl)) (by rfl)) (own := [("rest", 2)]) (by rw [h.hN, h.hsc]; decide +kernel) (fun s1 H1 C1 cl1 fp1 => (g_name (lr_blk h.cc.nd n2 (by decide +kernel)))) (fun s1 H1 C1 cl1 fp1 => (q_call (Wd.callee (Wd.blk h.wd) c_power_in (gl_blk (by decide +kernel)) (by rfl)) ((Wd.blk h.wd).room.mono (by omega)) takes0 (a_cons (q_var (vr_blk n2 (by decide +kernel) (by rfl) (by rfl))) (a_cons (q_var (vr_blk n1 (by decide +kernel) (by rfl) (by rfl))) (a_cons (q_var (vr_blk n0 (by decide +kernel) (by rfl) (by rfl))) a_nil (by rfl)) (by rfl)) (by rfl)) (len_cons (len_cons (len_cons len_nil))).len (by rfl) (by rfl))) (by decide) (fun _ => rfl)))) (by rfl))) ar_nil (by rfl)) (by rfl) (by rfl))))))

theorem sc_powers_in : FnScope N_powers_in ["number", "times"] (defScope s_powers_in) := ⟨rfl, rfl, rfl, by decide +kernel, rfl, by decide +kernel, by decide +kernel⟩
theorem der_powers_in {P : Program} {w : World} {K : PySem.W.Frag} {mg : Str → Option Value} {base : Heap} (T : Hd fa fn K mg) (c_power_in : CalleeK P w K mg base "power_in" 1 3 m_power_in) {X : Cx} {B : Gr} {W : WX} (h : Bd X W P w K mg base 1 N_powers_in (defScope s_powers_in)) : QSs X B W (defBody s_powers_in) f_powers_in := by
  have v0 := h.vr (i := 0) (x := "number") (by rfl) (by decide +kernel)
  have n0 : X.N[0]? = some ("number" : Str) := by rw [h.hN]; rfl
  have k0 : X.env.scope.names.lookup ("number" : Str) = some .cell := by rw [h.hsc]; decide +kernel
  have n1 : X.N[1]? = some ("times" : Str) := by rw [h.hN]; rfl
  have k1 : X.env.scope.names.lookup ("times" : Str) = some .cell := by rw [h.hsc]; decide +kernel
  have n2 : X.N[2]? = some ("rest" : Str) := by rw [h.hN]; rfl
  have g_range := h.gl (x := "range") (by decide +kernel)
  exact (ss_one (s_ret (QF.qe (f_lc h.cc (i_r1 (h.wd.blt (T.free 57 (by rfl)) g_range) (a_cons (q_var v0) a_nil (by rfl)) (by rfl)) (own := [("rest", 2)]) (by rw [h.hN, h.hsc]; decide +kernel) (fun s1 H1 C1 cl1 fp1 => (g_name (lr_blk h.cc.nd n2 (by decide +kernel)))) (fun s1 H1 C1 cl1 fp1 => (q_call (Wd.callee (Wd.blk h.wd) c_power_in (gl_blk (by decide +kernel)) (by rfl)) ((Wd.blk h.wd).room.mono (by omega)) takes0 (a_cons (q_var (vr_blk n2 (by decide +kernel) (by rfl) (by rfl))) (a_cons (q_var (vr_blk n1 (by decide +kernel) (by rfl) (by rfl))) (a_cons (q_var (vr_blk n0 (by decide +kernel) (by rfl) (by rfl))) a_nil (by rfl)) (by rfl)) (by rfl)) (len_cons (len_cons (len_cons len_nil))).len (by rfl) (by rfl))) (by decide) (fun _ => rfl)))))

theorem sc_fewest_in : FnScope N_fewest_in ["number", "times"] (defScope s_fewest_in) := ⟨rfl, rfl, rfl, by decide +kernel, rfl, by decide +kernel, by decide +kernel⟩
theorem der_fewest_in {P : Program} {w : World} {K : PySem.W.Frag} {mg : Str → Option Value} {base : Heap} (T : Hd fa fn K mg) (c_powers_in : CalleeK P w K mg base "powers_in" 2 2 m_powers_in) {X : Cx} {B : Gr} {W : WX} (h : Bd X W P w K mg base 2 N_fewest_in (defScope s_fewest_in)) : QSs X B W (defBody s_fewest_in) f_fewest_in := by
  have v0 := h.vr (i := 0) (x := "number") (by rfl) (by decide +kernel)
  have v1 := h.vr (i := 1) (x := "times") (by rfl) (by decide +kernel)
  have v2 := h.vr (i := 2) (x := "powers") (by rfl) (by decide +kernel)
  have v3 := h.vr (i := 3) (x := "least") (by rfl) (by decide +kernel)
  have v4 := h.vr (i := 4) (x := "found") (by rfl) (by decide +kernel)
  have v5 := h.vr (i := 5) (x := "rest") (by rfl) (by decide +kernel)
  have v6 := h.vr (i := 6) (x := "own") (by rfl) (by decide +kernel)
  have v7 := h.vr (i := 7) (x := "line") (by rfl) (by decide +kernel)
  have v8 := h.vr (i := 8) (x := "terms") (by rfl) (by decide +kernel)
  have v9 := h.vr (i := 9) (x := "later") (by rfl) (by decide +kernel)
  have v10 := h.vr (i := 10) (x := "here") (by rfl) (by decide +kernel)
  have l2 := h.lr (i := 2) (x := "powers") (by rfl) (by decide +kernel)
  have l5 := h.lr (i := 5) (x := "rest") (by rfl) (by decide +kernel)
  have l6 := h.lr (i := 6) (x := "own") (by rfl) (by decide +kernel)
  have l7 := h.lr (i := 7) (x := "line") (by rfl) (by decide +kernel)
  have l10 := h.lr (i := 10) (x := "here") (by rfl) (by decide +kernel)
  have ll3 := h.ll (i := 3) (x := "least") (by rfl) (by decide +kernel)
  have ll4 := h.ll (i := 4) (x := "found") (by rfl) (by decide +kernel)
  have ll7 := h.ll (i := 7) (x := "line") (by rfl) (by decide +kernel)
  have ll8 := h.ll (i := 8) (x := "terms") (by rfl) (by decide +kernel)
  have ll9 := h.ll (i := 9) (x := "later") (by rfl) (by decide +kernel)
  have g_enumerate := h.gl (x := "enumerate") (by decide +kernel)
  have g_powers_in := h.gl (x := "powers_in") (by decide +kernel)
  exact (ss_cons (s_set l2 (q_call (Wd.callee h.wd c_powers_in g_powers_in (by rfl)) (h.wd.room.mono (by omega)) h.cc.tk (a_cons (q_var v0) (a_cons (q_var v1) a_nil (by rfl)) (by rfl)) (len_cons (len_cons len_nil)).len (by rfl) (by rfl)) (by rfl))
 (ss_cons (s_pm2 h.cc ll3 ll4 (by decide) (m_own f_dnew (m_own (f_op opf_rep (QE.qr (QF.qe (f_lst (a_cons q_non a_nil (by rfl))))) (q_rd v0)) m_nil (by rfl)) (by rfl)) (sw2 h.cc.kd ll3.loc ll4.loc (by decide +kernel) (by rfl) (by rfl) (by rfl) (by rfl)) (by rfl))
 (ss_cons (s_for h.cc (i_enum (h.wd.blt (T.free 51 (by rfl)) g_enumerate) (a_cons (q_var v2) a_nil (by rfl)) (by rfl)) (g_tup h.cc.calm (gs_cons (g_name l5) (gs_cons (g_name l6) gs_nil (by rfl)) (by rfl)) (gl_cons (gl_cons gl_nil)).len (by rfl) (by rfl))
  (ss_one (s_dset h.wd.hu1 v3 (q_rd v6) (q_dget2 h.wd.hu1 (q_rd v3) (q_rd v6) (q_var v5) ⟨(by rfl), (by rfl), (by rfl), (by rfl)⟩) (by rfl))) (fun _ => rfl))
 (ss_cons (s_pm2 h.cc ll7 ll8 (by decide) (m_own (f_lst a_nil) (m_fz q_int m_nil (by rfl)) (by rfl)) (sw2 h.cc.kd ll7.loc ll8.loc (by decide +kernel) (by rfl) (by rfl) (by rfl) (by rfl)) (by rfl))
 (ss_lockD (ss_cons (s_for h.cc (i_items (q_var v3) (by rfl) (by rfl)) (g_tup h.cc.calm (gs_cons (g_name l6) (gs_cons (g_name l5) gs_nil (by rfl)) (by rfl)) (gl_cons (gl_cons gl_nil)).len (by rfl) (by rfl))
  (ss_cons (s_setIx v4 (q_var v6) (q_tup (a_cons q_int (a_cons (q_var v5) a_nil (by rfl)) (by rfl))) (fun _ => rfl) (by rfl) (by rfl) (by rfl))
 (ss_one (s_app v7 (q_var v6) (by rfl) (by rfl) (by rfl) (by rfl) (by rfl)))) (fun _ => rfl))
 (ss_cons (s_while h.cc (t_cmp (opq_ne (h.wd).hu) (by with_unfolding_all rfl) (q_rd v7) (QE.qr (QF.qe (f_lst a_nil))))
  (ss_cons (s_pm2 h.cc ll8 ll9 (by decide) (m_fz (q_op opq_add (q_rd v8) (QE.qr q_int)) (m_own (f_lst a_nil) m_nil (by rfl)) (by rfl)) (sw2 h.cc.kd ll8.loc ll9.loc (by decide +kernel) (by rfl) (by rfl) (by rfl) (by rfl)) (by rfl))
 (ss_frz (ss_cons (s_for h.cc (i_seq (q_var v7)) (g_name l10)
  (ss_lockD (ss_one (s_for h.cc (i_items (q_var v3) (by rfl) (by rfl)) (g_tup h.cc.calm (gs_cons (g_name l6) (gs_cons (g_name l5) gs_nil (by rfl)) (by rfl)) (gl_cons (gl_cons gl_nil)).len (by rfl) (by rfl))
  (ss_one (s_if (t_cmp opq_is (by with_unfolding_all rfl) (QE.qr (q_ix (fun _ _ => rfl) (q_rd v4) (QE.qr (q_op opq_mod (QE.qr (q_op opq_add (q_rd v10) (q_rd v6))) (q_rd v0))))) (QE.qr q_non))
  (ss_cons (s_setIx v4 (q_op opq_mod (QE.qr (q_op opq_add (q_rd v10) (q_rd v6))) (q_rd v0)) (q_tup (a_cons (q_var v8) (a_cons (q_var v5) a_nil (by rfl)) (by rfl))) (fun _ => rfl) (by rfl) (by rfl) (by rfl))
 (ss_one (s_app v9 (q_op opq_mod (QE.qr (q_op opq_add (q_rd v10) (q_rd v6))) (q_rd v0)) (by rfl) (by rfl) (by rfl) (by rfl) (by rfl))))
  ss_nil)) (fun _ => rfl))) 3) (fun _ => rfl))
 (ss_one (s_move v9 l7 (by rfl)))) 7)))
 (ss_frz (ss_one (s_ret (q_var v4))) 4))) 3)))))

theorem sc_sums_of : FnScope N_sums_of ["number", "times", "many"] (defScope s_sums_of) := ⟨rfl, rfl, rfl, by decide +kernel, rfl, by decide +kernel, by decide +kernel⟩
theorem der_sums_of {P : Program} {w : World} {K : PySem.W.Frag} {mg : Str → Option Value} {base : Heap} (T : Hd fa fn K mg) (c_powers_in : CalleeK P w K mg base "powers_in" 2 2 m_powers_in) {X : Cx} {B : Gr} {W : WX} (h : Bd X W P w K mg base 2 N_sums_of (defScope s_sums_of)) : QSs X B W (defBody s_sums_of) f_sums_of := by
  have v0 := h.vr (i := 0) (x := "number") (by rfl) (by decide +kernel)
  have v1 := h.vr (i := 1) (x := "times") (by rfl) (by decide +kernel)
  have v2 := h.vr (i := 2) (x := "many") (by rfl) (by decide +kernel)
  have v4 := h.vr (i := 4) (x := "here") (by rfl) (by decide +kernel)
  have l3 := h.lr (i := 3) (x := "powers") (by rfl) (by decide +kernel)
  have l4 := h.lr (i := 4) (x := "here") (by rfl) (by decide +kernel)
  have l5 := h.lr (i := 5) (x := "turn") (by rfl) (by decide +kernel)
  have n0 : X.N[0]? = some ("number" : Str) := by rw [h.hN]; rfl
  have k0 : X.env.scope.names.lookup ("number" : Str) = some .cell := by rw [h.hsc]; decide +kernel
  have n3 : X.N[3]? = some ("powers" : Str) := by rw [h.hN]; rfl
  have k3 : X.env.scope.names.lookup ("powers" : Str) = some .cell := by rw [h.hsc]; decide +kernel
  have n6 : X.N[6]? = some ("own" : Str) := by rw [h.hN]; rfl
  have n7 : X.N[7]? = some ("more" : Str) := by rw [h.hN]; rfl
  have g_dict := h.gl (x := "dict") (by decide +kernel)
  have g_powers_in := h.gl (x := "powers_in") (by decide +kernel)
  have g_range := h.gl (x := "range") (by decide +kernel)
  have g_set := h.gl (x := "set") (by decide +kernel)
  have g_sorted := h.gl (x := "sorted") (by decide +kernel)
  exact (ss_cons (s_set l3 (q_sortedSet h.cc.calm (h.wd.blt (T.free 59 (by rfl)) g_sorted) (h.wd.blt (T.free 58 (by rfl)) g_set) (QE.qr (q_call (Wd.callee h.wd c_powers_in g_powers_in (by rfl)) (h.wd.room.mono (by omega)) h.cc.tk (a_cons (q_var v0) (a_cons (q_var v1) a_nil (by rfl)) (by rfl)) (len_cons (len_cons len_nil)).len (by rfl) (by rfl))) (by rfl)) (by rfl))
 (ss_cons (s_set l4 (QF.qe (f_dict1 q_int q_bl)) (by rfl))
 (ss_cons (s_for h.cc (i_r1 (h.wd.blt (T.free 57 (by rfl)) g_range) (a_cons (q_var v2) a_nil (by rfl)) (by rfl)) (g_name l5)
  (ss_one (s_set l4 (QF.qe (f_dictL h.cc.calm (h.wd.blt (T.free 50 (by rfl)) g_dict) boot_dict (by decide) (by rfl) (ar_cons (QE.qr (QF.qe (f_lc2 h.cc (i_keys (q_var v4)) (own := [("own", 6), ("more", 7)]) (vs1 := [7]) (by rw [h.hN, h.hsc]; decide +kernel) (by decide) (fun s1 H1 C1 cl1 fp1 => (g_name (lr_blk h.cc.nd n6 (by decide +kernel)))) (gown_N 6) (fun s1 H1 C1 cl1 fp1 => (i_seq (q_var (vr_blk n3 (by decide +kernel) (by rfl) (by rfl))))) (fun s1 H1 C1 cl1 fp1 => (g_name (lr_blk h.cc.nd n7 (by decide +kernel)))) (fun s1 H1 C1 cl1 fp1 => (q_tup (a_cons (q_op opq_mod (QE.qr (q_op opq_add (q_rd (vr_blk n6 (by decide +kernel) (by rfl) (by rfl))) (q_rd (vr_blk n7 (by decide +kernel) (by rfl) (by rfl))))) (q_rd (vr_blk n0 (by decide +kernel) (by rfl) (by rfl)))) (a_cons q_bl a_nil (by rfl)) (by rfl)))) (by decide) (by decide) (fun _ => rfl) (fun _ _ => rfl)))) ar_nil (by rfl)) (by rfl) (by rfl))) (by rfl))) (fun _ => rfl))
 (ss_one (s_ret (q_cb (cq_sortedD h.cc.calm) (h.wd.blt (T.free 59 (by rfl)) g_sorted) boot_sorted (by decide) (by rfl) (ar_cons (q_rd v4) ar_nil (by rfl)) (by rfl) (by rfl)))))))

theorem sc_terms_in : FnScope N_terms_in ["number", "times", "rest"] (defScope s_terms_in) := ⟨rfl, rfl, rfl, by decide +kernel, rfl, by decide +kernel, by decide +kernel⟩
theorem der_terms_in {P : Program} {w : World} {K : PySem.W.Frag} {mg : Str → Option Value} {base : Heap} (T : Hd fa fn K mg) (c_fewest_in : CalleeK P w K mg base "fewest_in" 3 2 m_fewest_in) (c_power_in : CalleeK P w K mg base "power_in" 1 3 m_power_in) {X : Cx} {B : Gr} {W : WX} (h : Bd X W P w K mg base 3 N_terms_in (defScope s_terms_in)) : QSs X B W (defBody s_terms_in) f_terms_in := by
  have v0 := h.vr (i := 0) (x := "number") (by rfl) (by decide +kernel)
  have v1 := h.vr (i := 1) (x := "times") (by rfl) (by decide +kernel)
  have v2 := h.vr (i := 2) (x := "rest") (by rfl) (by decide +kernel)
  have v3 := h.vr (i := 3) (x := "fewest") (by rfl) (by decide +kernel)
  have v4 := h.vr (i := 4) (x := "found") (by rfl) (by decide +kernel)
  have v5 := h.vr (i := 5) (x := "here") (by rfl) (by decide +kernel)
  have l5 := h.lr (i := 5) (x := "here") (by rfl) (by decide +kernel)
  have l6 := h.lr (i := 6) (x := "turn") (by rfl) (by decide +kernel)
  have ll3 := h.ll (i := 3) (x := "fewest") (by rfl) (by decide +kernel)
  have ll4 := h.ll (i := 4) (x := "found") (by rfl) (by decide +kernel)
  have ll5 := h.ll (i := 5) (x := "here") (by rfl) (by decide +kernel)
  have g_fewest_in := h.gl (x := "fewest_in") (by decide +kernel)
  have g_power_in := h.gl (x := "power_in") (by decide +kernel)
  have g_range := h.gl (x := "range") (by decide +kernel)
  exact (ss_cons (s_pm3 h.cc ll3 ll4 ll5 (by decide) (by decide) (by decide) (m_fz (q_call (Wd.callee h.wd c_fewest_in g_fewest_in (by rfl)) (h.wd.room.mono (by omega)) h.cc.tk (a_cons (q_var v0) (a_cons (q_var v1) a_nil (by rfl)) (by rfl)) (len_cons (len_cons len_nil)).len (by rfl) (by rfl)) (m_own (f_lst a_nil) (m_fz (q_var v2) m_nil (by rfl)) (by rfl)) (by rfl)) (sw3 h.cc.kd ll3.loc ll4.loc ll5.loc (by decide +kernel) (by rfl) (by rfl) (by rfl) (by rfl) (by rfl)) (by rfl))
 (ss_cons (s_for h.cc (i_r1 (h.wd.blt (T.free 57 (by rfl)) g_range) (a_cons (q_ix (fun _ _ => rfl) (QE.qr (q_ix (fun _ _ => rfl) (q_rd v3) (q_rd v2))) (QE.qr q_int)) a_nil (by rfl)) (by rfl)) (g_name l6)
  (ss_cons (s_app v4 (q_ix (fun _ _ => rfl) (QE.qr (q_ix (fun _ _ => rfl) (q_rd v3) (q_rd v5))) (QE.qr q_int)) (by rfl) (by rfl) (by rfl) (by rfl) (by rfl))
 (ss_one (s_set l5 (q_op opq_mod (QE.qr (q_op opq_sub (q_rd v5) (QE.qr (q_call (Wd.callee h.wd c_power_in g_power_in (by rfl)) (h.wd.room.mono (by omega)) h.cc.tk (a_cons (q_ix (fun _ _ => rfl) (q_rd v4) (QE.qr (q_neg q_int))) (a_cons (q_var v1) (a_cons (q_var v0) a_nil (by rfl)) (by rfl)) (by rfl)) (len_cons (len_cons (len_cons len_nil))).len (by rfl) (by rfl))))) (q_rd v0)) (by rfl)))) (fun _ => rfl))
 (ss_frz (ss_one (s_ret (q_var v4))) 4)))

theorem sc_ways_of_sums : FnScope N_ways_of_sums ["number", "times", "many"] (defScope s_ways_of_sums) := ⟨rfl, rfl, rfl, by decide +kernel, rfl, by decide +kernel, by decide +kernel⟩
theorem der_ways_of_sums {P : Program} {w : World} {K : PySem.W.Frag} {mg : Str → Option Value} {base : Heap} (T : Hd fa fn K mg) (c_powers_in : CalleeK P w K mg base "powers_in" 2 2 m_powers_in) {X : Cx} {B : Gr} {W : WX} (h : Bd X W P w K mg base 2 N_ways_of_sums (defScope s_ways_of_sums)) : QSs X B W (defBody s_ways_of_sums) f_ways_of_sums := by
  have v0 := h.vr (i := 0) (x := "number") (by rfl) (by decide +kernel)
  have v1 := h.vr (i := 1) (x := "times") (by rfl) (by decide +kernel)
  have v2 := h.vr (i := 2) (x := "many") (by rfl) (by decide +kernel)
  have v3 := h.vr (i := 3) (x := "powers") (by rfl) (by decide +kernel)
  have v4 := h.vr (i := 4) (x := "counts") (by rfl) (by decide +kernel)
  have v5 := h.vr (i := 5) (x := "here") (by rfl) (by decide +kernel)
  have v6 := h.vr (i := 6) (x := "own") (by rfl) (by decide +kernel)
  have v8 := h.vr (i := 8) (x := "later") (by rfl) (by decide +kernel)
  have v9 := h.vr (i := 9) (x := "at") (by rfl) (by decide +kernel)
  have v10 := h.vr (i := 10) (x := "ways") (by rfl) (by decide +kernel)
  have v11 := h.vr (i := 11) (x := "more") (by rfl) (by decide +kernel)
  have l3 := h.lr (i := 3) (x := "powers") (by rfl) (by decide +kernel)
  have l5 := h.lr (i := 5) (x := "here") (by rfl) (by decide +kernel)
  have l6 := h.lr (i := 6) (x := "own") (by rfl) (by decide +kernel)
  have l7 := h.lr (i := 7) (x := "turn") (by rfl) (by decide +kernel)
  have l8 := h.lr (i := 8) (x := "later") (by rfl) (by decide +kernel)
  have l9 := h.lr (i := 9) (x := "at") (by rfl) (by decide +kernel)
  have l10 := h.lr (i := 10) (x := "ways") (by rfl) (by decide +kernel)
  have l11 := h.lr (i := 11) (x := "more") (by rfl) (by decide +kernel)
  have ll4 := h.ll (i := 4) (x := "counts") (by rfl) (by decide +kernel)
  have ll5 := h.ll (i := 5) (x := "here") (by rfl) (by decide +kernel)
  have g_enumerate := h.gl (x := "enumerate") (by decide +kernel)
  have g_powers_in := h.gl (x := "powers_in") (by decide +kernel)
  have g_range := h.gl (x := "range") (by decide +kernel)
  exact (ss_cons (s_set l3 (q_call (Wd.callee h.wd c_powers_in g_powers_in (by rfl)) (h.wd.room.mono (by omega)) h.cc.tk (a_cons (q_var v0) (a_cons (q_var v1) a_nil (by rfl)) (by rfl)) (len_cons (len_cons len_nil)).len (by rfl) (by rfl)) (by rfl))
 (ss_cons (s_pm2 h.cc ll4 ll5 (by decide) (m_own f_dnew (m_fz (q_op opq_add (QE.qr (QF.qe (f_lst (a_cons q_int a_nil (by rfl))))) (QE.qr (q_op opq_mul (QE.qr (QF.qe (f_lst (a_cons q_int a_nil (by rfl))))) (QE.qr (q_op opq_sub (q_rd v0) (QE.qr q_int)))))) m_nil (by rfl)) (by rfl)) (sw2 h.cc.kd ll4.loc ll5.loc (by decide +kernel) (by rfl) (by rfl) (by rfl) (by rfl)) (by rfl))
 (ss_cons (s_for h.cc (i_seq (q_var v3)) (g_name l6)
  (ss_one (s_dset h.wd.hu1 v4 (q_rd v6) (q_op opq_add (QE.qr (q_dget2 h.wd.hu1 (q_rd v4) (q_rd v6) q_int ⟨(by rfl), (by rfl), (by rfl), (by rfl)⟩)) (QE.qr q_int)) (by rfl))) (fun _ => rfl))
 (ss_cons (s_for h.cc (i_r1 (h.wd.blt (T.free 57 (by rfl)) g_range) (a_cons (q_var v2) a_nil (by rfl)) (by rfl)) (g_name l7)
  (ss_cons (s_setO l8 (f_op opf_rep (QE.qr (QF.qe (f_lst (a_cons q_int a_nil (by rfl))))) (q_rd v0)) (by rfl))
 (ss_cons (s_for h.cc (i_enum (h.wd.blt (T.free 51 (by rfl)) g_enumerate) (a_cons (q_var v5) a_nil (by rfl)) (by rfl)) (g_tup h.cc.calm (gs_cons (g_name l9) (gs_cons (g_name l10) gs_nil (by rfl)) (by rfl)) (gl_cons (gl_cons gl_nil)).len (by rfl) (by rfl))
  (ss_one (s_if (t_cmp opq_gt (by with_unfolding_all rfl) (q_rd v10) (QE.qr q_int))
  (ss_lockD (ss_one (s_for h.cc (i_items (q_var v4) (by rfl) (by rfl)) (g_tup h.cc.calm (gs_cons (g_name l6) (gs_cons (g_name l11) gs_nil (by rfl)) (by rfl)) (gl_cons (gl_cons gl_nil)).len (by rfl) (by rfl))
  (ss_one (s_setIx v8 (q_op opq_mod (QE.qr (q_op opq_add (q_rd v9) (q_rd v6))) (q_rd v0)) (q_op opq_add (QE.qr (q_ix (fun _ _ => rfl) (q_rd v8) (QE.qr (q_op opq_mod (QE.qr (q_op opq_add (q_rd v9) (q_rd v6))) (q_rd v0))))) (QE.qr (q_op opq_mul (q_rd v10) (q_rd v11)))) (fun _ => rfl) (by rfl) (by rfl) (by rfl))) (fun _ => rfl))) 4)
  ss_nil)) (fun _ => rfl))
 (ss_frz (ss_one (s_set l5 (q_var v8) (by rfl))) 8))) (fun _ => rfl))
 (ss_one (s_ret (q_var v5)))))))

theorem sc_need_few : FnScope N_need_few ["number", "times"] (defScope s_need_few) := ⟨rfl, rfl, rfl, by decide +kernel, rfl, by decide +kernel, by decide +kernel⟩
theorem der_need_few {P : Program} {w : World} {K : PySem.W.Frag} {mg : Str → Option Value} {base : Heap} (T : Hd fa fn K mg) (c_need_whole : CalleeK P w K mg base "need_whole" 3 3 m_need_whole) (c_need_times : CalleeK P w K mg base "need_times" 3 1 m_need_times) {X : Cx} {B : Gr} {W : WX} (h : Bd X W P w K mg base 3 N_need_few (defScope s_need_few)) : QSs X B W (defBody s_need_few) f_need_few := by
  have v0 := h.vr (i := 0) (x := "number") (by rfl) (by decide +kernel)
  have v1 := h.vr (i := 1) (x := "times") (by rfl) (by decide +kernel)
  have g_MOST := h.gl (x := "MOST") (by decide +kernel)
  have g_need_times := h.gl (x := "need_times") (by decide +kernel)
  have g_need_whole := h.gl (x := "need_whole") (by decide +kernel)
  exact (ss_cons (s_exp (q_call (Wd.callee h.wd c_need_whole g_need_whole (by rfl)) (h.wd.room.mono (by omega)) h.cc.tk (a_cons (q_var v0) (a_cons q_int (a_cons (q_gint g_MOST (h.wd.gint (T.int 44 (by rfl))) (by rfl)) a_nil (by rfl)) (by rfl)) (by rfl)) (len_cons (len_cons (len_cons len_nil))).len (by rfl) (by rfl)) (by rfl))
 (ss_one (s_exp (q_call (Wd.callee h.wd c_need_times g_need_times (by rfl)) (h.wd.room.mono (by omega)) h.cc.tk (a_cons (q_var v1) a_nil (by rfl)) (len_cons len_nil).len (by rfl) (by rfl)) (by rfl))))

theorem sc_least_terms : FnScope N_least_terms ["number", "times"] (defScope s_least_terms) := ⟨rfl, rfl, rfl, by decide +kernel, rfl, by decide +kernel, by decide +kernel⟩
theorem der_least_terms {P : Program} {w : World} {K : PySem.W.Frag} {mg : Str → Option Value} {base : Heap} (T : Hd fa fn K mg) (c_need_few : CalleeK P w K mg base "need_few" 4 2 m_need_few) (c_fewest_in : CalleeK P w K mg base "fewest_in" 3 2 m_fewest_in) {X : Cx} {B : Gr} {W : WX} (h : Bd X W P w K mg base 4 N_least_terms (defScope s_least_terms)) : QSs X B W (defBody s_least_terms) f_least_terms := by
  have v0 := h.vr (i := 0) (x := "number") (by rfl) (by decide +kernel)
  have v1 := h.vr (i := 1) (x := "times") (by rfl) (by decide +kernel)
  have n2 : X.N[2]? = some ("pair" : Str) := by rw [h.hN]; rfl
  have g_fewest_in := h.gl (x := "fewest_in") (by decide +kernel)
  have g_max := h.gl (x := "max") (by decide +kernel)
  have g_need_few := h.gl (x := "need_few") (by decide +kernel)
  exact (ss_cons (s_exp (q_call (Wd.callee h.wd c_need_few g_need_few (by rfl)) (h.wd.room.mono (by omega)) h.cc.tk (a_cons (q_var v0) (a_cons (q_var v1) a_nil (by rfl)) (by rfl)) (len_cons (len_cons len_nil)).len (by rfl) (by rfl)) (by rfl))
 (ss_one (s_ret (q_cb (cq_max h.cc.calm) (h.wd.blt (T.free 56 (by rfl)) g_max) boot_max (by decide) (by rfl) (ar_cons (QE.qr (QF.qe (f_lc h.cc (i_seq (q_call (Wd.callee h.wd c_fewest_in g_fewest_in (by rfl)) (h.wd.room.mono (by omega)) h.cc.tk (a_cons (q_var v0) (a_cons (q_var v1) a_nil (by rfl)) (by rfl)) (len_cons (len_cons len_nil)).len (by rfl) (by rfl))) (own := [("pair", 2)]) (by rw [h.hN, h.hsc]; decide +kernel) (fun s1 H1 C1 cl1 fp1 => (g_name (lr_blk h.cc.nd n2 (by decide +kernel)))) (fun s1 H1 C1 cl1 fp1 => (q_ix (fun _ _ => rfl) (q_rd (vr_blk n2 (by decide +kernel) (by rfl) (by rfl))) (QE.qr q_int))) (by decide) (fun _ => rfl)))) ar_nil (by rfl)) (by rfl) (by rfl)))))

theorem sc_rests_of_sums : FnScope N_rests_of_sums ["number", "times", "many"] (defScope s_rests_of_sums) := ⟨rfl, rfl, rfl, by decide +kernel, rfl, by decide +kernel, by decide +kernel⟩
theorem der_rests_of_sums {P : Program} {w : World} {K : PySem.W.Frag} {mg : Str → Option Value} {base : Heap} (T : Hd fa fn K mg) (c_need_few : CalleeK P w K mg base "need_few" 4 2 m_need_few) (c_need_whole : CalleeK P w K mg base "need_whole" 3 3 m_need_whole) (c_sums_of : CalleeK P w K mg base "sums_of" 3 3 m_sums_of) {X : Cx} {B : Gr} {W : WX} (h : Bd X W P w K mg base 4 N_rests_of_sums (defScope s_rests_of_sums)) : QSs X B W (defBody s_rests_of_sums) f_rests_of_sums := by
  have v0 := h.vr (i := 0) (x := "number") (by rfl) (by decide +kernel)
  have v1 := h.vr (i := 1) (x := "times") (by rfl) (by decide +kernel)
  have v2 := h.vr (i := 2) (x := "many") (by rfl) (by decide +kernel)
  have g_MANY := h.gl (x := "MANY") (by decide +kernel)
  have g_need_few := h.gl (x := "need_few") (by decide +kernel)
  have g_need_whole := h.gl (x := "need_whole") (by decide +kernel)
  have g_sums_of := h.gl (x := "sums_of") (by decide +kernel)
  have g_tuple := h.gl (x := "tuple") (by decide +kernel)
  exact (ss_cons (s_exp (q_call (Wd.callee h.wd c_need_few g_need_few (by rfl)) (h.wd.room.mono (by omega)) h.cc.tk (a_cons (q_var v0) (a_cons (q_var v1) a_nil (by rfl)) (by rfl)) (len_cons (len_cons len_nil)).len (by rfl) (by rfl)) (by rfl))
 (ss_cons (s_exp (q_call (Wd.callee h.wd c_need_whole g_need_whole (by rfl)) (h.wd.room.mono (by omega)) h.cc.tk (a_cons (q_var v2) (a_cons q_int (a_cons (q_gint g_MANY (h.wd.gint (T.int 45 (by rfl))) (by rfl)) a_nil (by rfl)) (by rfl)) (by rfl)) (len_cons (len_cons (len_cons len_nil))).len (by rfl) (by rfl)) (by rfl))
 (ss_one (s_ret (q_ct cq_tuple (h.wd.blt (T.free 62 (by rfl)) g_tuple) boot_tuple (by decide) (by rfl) (ar_cons (QE.qr (q_call (Wd.callee h.wd c_sums_of g_sums_of (by rfl)) (h.wd.room.mono (by omega)) h.cc.tk (a_cons (q_var v0) (a_cons (q_var v1) (a_cons (q_var v2) a_nil (by rfl)) (by rfl)) (by rfl)) (len_cons (len_cons (len_cons len_nil))).len (by rfl) (by rfl))) ar_nil (by rfl)) (by rfl) (by rfl))))))

theorem sc_power_terms : FnScope N_power_terms ["number", "times", "rest"] (defScope s_power_terms) := ⟨rfl, rfl, rfl, by decide +kernel, rfl, by decide +kernel, by decide +kernel⟩
theorem der_power_terms {P : Program} {w : World} {K : PySem.W.Frag} {mg : Str → Option Value} {base : Heap} (T : Hd fa fn K mg) (c_need_few : CalleeK P w K mg base "need_few" 4 2 m_need_few) (c_need_rest : CalleeK P w K mg base "need_rest" 3 2 m_need_rest) (c_terms_in : CalleeK P w K mg base "terms_in" 4 3 m_terms_in) {X : Cx} {B : Gr} {W : WX} (h : Bd X W P w K mg base 4 N_power_terms (defScope s_power_terms)) : QSs X B W (defBody s_power_terms) f_power_terms := by
  have v0 := h.vr (i := 0) (x := "number") (by rfl) (by decide +kernel)
  have v1 := h.vr (i := 1) (x := "times") (by rfl) (by decide +kernel)
  have v2 := h.vr (i := 2) (x := "rest") (by rfl) (by decide +kernel)
  have g_need_few := h.gl (x := "need_few") (by decide +kernel)
  have g_need_rest := h.gl (x := "need_rest") (by decide +kernel)
  have g_terms_in := h.gl (x := "terms_in") (by decide +kernel)
  have g_tuple := h.gl (x := "tuple") (by decide +kernel)
  exact (ss_cons (s_exp (q_call (Wd.callee h.wd c_need_few g_need_few (by rfl)) (h.wd.room.mono (by omega)) h.cc.tk (a_cons (q_var v0) (a_cons (q_var v1) a_nil (by rfl)) (by rfl)) (len_cons (len_cons len_nil)).len (by rfl) (by rfl)) (by rfl))
 (ss_cons (s_exp (q_call (Wd.callee h.wd c_need_rest g_need_rest (by rfl)) (h.wd.room.mono (by omega)) h.cc.tk (a_cons (q_var v0) (a_cons (q_var v2) a_nil (by rfl)) (by rfl)) (len_cons (len_cons len_nil)).len (by rfl) (by rfl)) (by rfl))
 (ss_one (s_ret (q_ct cq_tuple (h.wd.blt (T.free 62 (by rfl)) g_tuple) boot_tuple (by decide) (by rfl) (ar_cons (QE.qr (q_call (Wd.callee h.wd c_terms_in g_terms_in (by rfl)) (h.wd.room.mono (by omega)) h.cc.tk (a_cons (q_var v0) (a_cons (q_var v1) (a_cons (q_var v2) a_nil (by rfl)) (by rfl)) (by rfl)) (len_cons (len_cons (len_cons len_nil))).len (by rfl) (by rfl))) ar_nil (by rfl)) (by rfl) (by rfl))))))

theorem sc_are_power_terms : FnScope N_are_power_terms ["number", "times", "rest", "value"] (defScope s_are_power_terms) := ⟨rfl, rfl, rfl, by decide +kernel, rfl, by decide +kernel, by decide +kernel⟩
theorem der_are_power_terms {P : Program} {w : World} {K : PySem.W.Frag} {mg : Str → Option Value} {base : Heap} (T : Hd fa fn K mg) (c_need_few : CalleeK P w K mg base "need_few" 4 2 m_need_few) (c_need_rest : CalleeK P w K mg base "need_rest" 3 2 m_need_rest) (c_fewest_in : CalleeK P w K mg base "fewest_in" 3 2 m_fewest_in) (c_is_tuple_of : CalleeK P w K mg base "is_tuple_of" 1 3 m_is_tuple_of) (c_is_whole : CalleeK P w K mg base "is_whole" 2 3 m_is_whole) (c_power_in : CalleeK P w K mg base "power_in" 1 3 m_power_in) {X : Cx} {B : Gr} {W : WX} (h : Bd X W P w K mg base 4 N_are_power_terms (defScope s_are_power_terms)) : QSs X B W (defBody s_are_power_terms) f_are_power_terms := by
  have v0 := h.vr (i := 0) (x := "number") (by rfl) (by decide +kernel)
  have v1 := h.vr (i := 1) (x := "times") (by rfl) (by decide +kernel)
  have v2 := h.vr (i := 2) (x := "rest") (by rfl) (by decide +kernel)
  have v3 := h.vr (i := 3) (x := "value") (by rfl) (by decide +kernel)
  have v4 := h.vr (i := 4) (x := "many") (by rfl) (by decide +kernel)
  have l4 := h.lr (i := 4) (x := "many") (by rfl) (by decide +kernel)
  have n0 : X.N[0]? = some ("number" : Str) := by rw [h.hN]; rfl
  have k0 : X.env.scope.names.lookup ("number" : Str) = some .cell := by rw [h.hsc]; decide +kernel
  have n1 : X.N[1]? = some ("times" : Str) := by rw [h.hN]; rfl
  have k1 : X.env.scope.names.lookup ("times" : Str) = some .cell := by rw [h.hsc]; decide +kernel
  have n5 : X.N[5]? = some ("own" : Str) := by rw [h.hN]; rfl
  have g_all := h.gl (x := "all") (by decide +kernel)
  have g_fewest_in := h.gl (x := "fewest_in") (by decide +kernel)
  have g_is_tuple_of := h.gl (x := "is_tuple_of") (by decide +kernel)
  have g_need_few := h.gl (x := "need_few") (by decide +kernel)
  have g_need_rest := h.gl (x := "need_rest") (by decide +kernel)
  have g_sum := h.gl (x := "sum") (by decide +kernel)
  exact (ss_cons (s_exp (q_call (Wd.callee h.wd c_need_few g_need_few (by rfl)) (h.wd.room.mono (by omega)) h.cc.tk (a_cons (q_var v0) (a_cons (q_var v1) a_nil (by rfl)) (by rfl)) (len_cons (len_cons len_nil)).len (by rfl) (by rfl)) (by rfl))
 (ss_cons (s_exp (q_call (Wd.callee h.wd c_need_rest g_need_rest (by rfl)) (h.wd.room.mono (by omega)) h.cc.tk (a_cons (q_var v0) (a_cons (q_var v2) a_nil (by rfl)) (by rfl)) (len_cons (len_cons len_nil)).len (by rfl) (by rfl)) (by rfl))
 (ss_cons (s_set l4 (q_ix (fun _ _ => rfl) (QE.qr (q_ix (fun _ _ => rfl) (QE.qr (q_call (Wd.callee h.wd c_fewest_in g_fewest_in (by rfl)) (h.wd.room.mono (by omega)) h.cc.tk (a_cons (q_var v0) (a_cons (q_var v1) a_nil (by rfl)) (by rfl)) (len_cons (len_cons len_nil)).len (by rfl) (by rfl))) (q_rd v2))) (QE.qr q_int)) (by rfl))
 (ss_cons (s_if (t_w (w_or (t_not (t_val (q_call (Wd.callee h.wd c_is_tuple_of g_is_tuple_of (by rfl)) (h.wd.room.mono (by omega)) h.cc.tk (a_cons (q_var v3) (a_cons (q_var v4) (a_cons (q_var v4) a_nil (by rfl)) (by rfl)) (by rfl)) (len_cons (len_cons (len_cons len_nil))).len (by rfl) (by rfl)) (fun _ => rfl))) (w_or1 (t_not (t_val (q_cb (cq_all h.cc.calm) (h.wd.blt (T.free 48 (by rfl)) g_all) boot_all (by decide) (by rfl) (ar_cons (QE.qr (QF.qe (f_lc h.cc (i_seq (q_var v3)) (own := [("own", 5)]) (by rw [h.hN, h.hsc]; decide +kernel) (fun s1 H1 C1 cl1 fp1 => (g_name (lr_blk h.cc.nd n5 (by decide +kernel)))) (fun s1 H1 C1 cl1 fp1 => (q_call (Wd.callee (Wd.blk h.wd) c_is_whole (gl_blk (by decide +kernel)) (by rfl)) ((Wd.blk h.wd).room.mono (by omega)) takes0 (a_cons (q_var (vr_blk n5 (by decide +kernel) (by rfl) (by rfl))) (a_cons q_int (a_cons (q_op opq_sub (q_rd (vr_blk n0 (by decide +kernel) (by rfl) (by rfl))) (QE.qr q_int)) a_nil (by rfl)) (by rfl)) (by rfl)) (len_cons (len_cons (len_cons len_nil))).len (by rfl) (by rfl))) (by decide) (fun _ => rfl)))) ar_nil (by rfl)) (by rfl) (by rfl)) (fun _ => rfl))))))
  (ss_one (s_ret q_bl))
  ss_nil)
 (ss_one (s_ret (q_cmp (opq_eq (h.wd).hu) (by with_unfolding_all rfl) (QE.qr (q_op opq_mod (QE.qr (q_cb (cq_sum h.cc.calm) (h.wd.blt (T.free 61 (by rfl)) g_sum) boot_sum (by decide) (by rfl) (ar_cons (QE.qr (QF.qe (f_lc h.cc (i_seq (q_var v3)) (own := [("own", 5)]) (by rw [h.hN, h.hsc]; decide +kernel) (fun s2 H2 C2 cl2 fp2 => (g_name (lr_blk h.cc.nd n5 (by decide +kernel)))) (fun s2 H2 C2 cl2 fp2 => (q_call (Wd.callee (Wd.blk h.wd) c_power_in (gl_blk (by decide +kernel)) (by rfl)) ((Wd.blk h.wd).room.mono (by omega)) takes0 (a_cons (q_var (vr_blk n5 (by decide +kernel) (by rfl) (by rfl))) (a_cons (q_var (vr_blk n1 (by decide +kernel) (by rfl) (by rfl))) (a_cons (q_var (vr_blk n0 (by decide +kernel) (by rfl) (by rfl))) a_nil (by rfl)) (by rfl)) (by rfl)) (len_cons (len_cons (len_cons len_nil))).len (by rfl) (by rfl))) (by decide) (fun _ => rfl)))) ar_nil (by rfl)) (by rfl) (by rfl))) (q_rd v0))) (q_rd v2))))))))

theorem sc_count_power_sums : FnScope N_count_power_sums ["number", "times", "many", "rest"] (defScope s_count_power_sums) := ⟨rfl, rfl, rfl, by decide +kernel, rfl, by decide +kernel, by decide +kernel⟩
theorem der_count_power_sums {P : Program} {w : World} {K : PySem.W.Frag} {mg : Str → Option Value} {base : Heap} (T : Hd fa fn K mg) (c_need_few : CalleeK P w K mg base "need_few" 4 2 m_need_few) (c_need_whole : CalleeK P w K mg base "need_whole" 3 3 m_need_whole) (c_need_rest : CalleeK P w K mg base "need_rest" 3 2 m_need_rest) (c_ways_of_sums : CalleeK P w K mg base "ways_of_sums" 3 3 m_ways_of_sums) {X : Cx} {B : Gr} {W : WX} (h : Bd X W P w K mg base 4 N_count_power_sums (defScope s_count_power_sums)) : QSs X B W (defBody s_count_power_sums) f_count_power_sums := by
  have v0 := h.vr (i := 0) (x := "number") (by rfl) (by decide +kernel)
  have v1 := h.vr (i := 1) (x := "times") (by rfl) (by decide +kernel)
  have v2 := h.vr (i := 2) (x := "many") (by rfl) (by decide +kernel)
  have v3 := h.vr (i := 3) (x := "rest") (by rfl) (by decide +kernel)
  have g_TERMS := h.gl (x := "TERMS") (by decide +kernel)
  have g_need_few := h.gl (x := "need_few") (by decide +kernel)
  have g_need_rest := h.gl (x := "need_rest") (by decide +kernel)
  have g_need_whole := h.gl (x := "need_whole") (by decide +kernel)
  have g_ways_of_sums := h.gl (x := "ways_of_sums") (by decide +kernel)
  exact (ss_cons (s_exp (q_call (Wd.callee h.wd c_need_few g_need_few (by rfl)) (h.wd.room.mono (by omega)) h.cc.tk (a_cons (q_var v0) (a_cons (q_var v1) a_nil (by rfl)) (by rfl)) (len_cons (len_cons len_nil)).len (by rfl) (by rfl)) (by rfl))
 (ss_cons (s_exp (q_call (Wd.callee h.wd c_need_whole g_need_whole (by rfl)) (h.wd.room.mono (by omega)) h.cc.tk (a_cons (q_var v2) (a_cons q_int (a_cons (q_gint g_TERMS (h.wd.gint (T.int 46 (by rfl))) (by rfl)) a_nil (by rfl)) (by rfl)) (by rfl)) (len_cons (len_cons (len_cons len_nil))).len (by rfl) (by rfl)) (by rfl))
 (ss_cons (s_exp (q_call (Wd.callee h.wd c_need_rest g_need_rest (by rfl)) (h.wd.room.mono (by omega)) h.cc.tk (a_cons (q_var v0) (a_cons (q_var v3) a_nil (by rfl)) (by rfl)) (len_cons (len_cons len_nil)).len (by rfl) (by rfl)) (by rfl))
 (ss_one (s_ret (q_ix (fun _ _ => rfl) (QE.qr (q_call (Wd.callee h.wd c_ways_of_sums g_ways_of_sums (by rfl)) (h.wd.room.mono (by omega)) h.cc.tk (a_cons (q_var v0) (a_cons (q_var v1) (a_cons (q_var v2) a_nil (by rfl)) (by rfl)) (by rfl)) (len_cons (len_cons (len_cons len_nil))).len (by rfl) (by rfl))) (q_rd v3)))))))

theorem sc__law_cup : FnScope N__law_cup ["script"] (defScope s__law_cup) := ⟨rfl, rfl, rfl, by decide +kernel, rfl, by decide +kernel, by decide +kernel⟩
theorem der__law_cup {P : Program} {w : World} {K : PySem.W.Frag} {mg : Str → Option Value} {base : Heap} (T : Hd fa fn K mg) {X : Cx} {B : Gr} {W : WX} (h : Bd X W P w K mg base 0 N__law_cup (defScope s__law_cup)) : QSs X B W (defBody s__law_cup) f__law_cup := by
  have v0 := h.vr (i := 0) (x := "script") (by rfl) (by decide +kernel)
  have v1 := h.vr (i := 1) (x := "cell") (by rfl) (by decide +kernel)
  have l1 := h.lr (i := 1) (x := "cell") (by rfl) (by decide +kernel)
  have g_abs := h.gl (x := "abs") (by decide +kernel)
  have g_int := h.gl (x := "int") (by decide +kernel)
  have g_list := h.gl (x := "list") (by decide +kernel)
  exact (ss_cons (s_set l1 (q_cb cq_abs (h.wd.blt (T.free 47 (by rfl)) g_abs) boot_abs (by decide) (by rfl) (ar_cons (QE.qr (q_ix (fun _ _ => rfl) (QE.qr (q_op opq_add (QE.qr (q_ct cq_list (h.wd.blt (T.free 55 (by rfl)) g_list) boot_list (by decide) (by rfl) (ar_cons (q_rd v0) ar_nil (by rfl)) (by rfl) (by rfl))) (QE.qr (QF.qe (f_lst (a_cons q_int a_nil (by rfl))))))) (QE.qr q_int))) ar_nil (by rfl)) (by rfl) (by rfl)) (by rfl))
 (ss_one (s_retH (f_lst (a_cons (q_if (t_cmp opq_ge (by with_unfolding_all rfl) (q_rd v1) (QE.qr (q_op opq_pow (QE.qr q_int) (QE.qr q_int)))) (q_op opq_div (q_rd v1) (QE.qr q_int)) q_int) (a_cons (q_op opq_add (QE.qr (q_op opq_mod (QE.qr (q_ct cq_int (h.wd.blt (T.free 52 (by rfl)) g_int) boot_int (by decide) (by rfl) (ar_cons (QE.qr (q_op opq_add (QE.qr (q_op opq_mul (q_rd v1) (QE.qr q_int))) (QE.qr q_int))) ar_nil (by rfl)) (by rfl) (by rfl))) (QE.qr q_int))) (QE.qr q_int)) a_nil (by rfl)) (by rfl))))))

theorem sc__law_roll : FnScope N__law_roll ["cup", "many"] (defScope s__law_roll) := ⟨rfl, rfl, rfl, by decide +kernel, rfl, by decide +kernel, by decide +kernel⟩
theorem der__law_roll {P : Program} {w : World} {K : PySem.W.Frag} {mg : Str → Option Value} {base : Heap} (T : Hd fa fn K mg) {X : Cx} {B : Gr} {W : WX} (h : Bd X W P w K mg base 0 N__law_roll (defScope s__law_roll)) : QSs X B W (defBody s__law_roll) f__law_roll := by
  have v0 := h.vr (i := 0) (x := "cup") (by rfl) (by decide +kernel)
  have v1 := h.vr (i := 1) (x := "many") (by rfl) (by decide +kernel)
  have v2 := h.vr (i := 2) (x := "found") (by rfl) (by decide +kernel)
  have v3 := h.vr (i := 3) (x := "deep") (by rfl) (by decide +kernel)
  have l2 := h.lr (i := 2) (x := "found") (by rfl) (by decide +kernel)
  have l3 := h.lr (i := 3) (x := "deep") (by rfl) (by decide +kernel)
  have g_int := h.gl (x := "int") (by decide +kernel)
  exact (ss_cons (s_if (t_cmp opq_gt (by with_unfolding_all rfl) (QE.qr (q_ixH v0 (fun _ _ => rfl))) (QE.qr q_int))
  (ss_cons (s_set l2 (q_op opq_mod (QE.qr (q_ct cq_int (h.wd.blt (T.free 52 (by rfl)) g_int) boot_int (by decide) (by rfl) (ar_cons (QE.qr (q_ixH v0 (fun _ _ => rfl))) ar_nil (by rfl)) (by rfl) (by rfl))) (q_rd v1)) (by rfl))
 (ss_cons (s_setIxH v0 (q_op opq_div (QE.qr (q_ixH v0 (fun _ _ => rfl))) (q_rd v1)) (fun _ => rfl) (by rfl) (by rfl) (by rfl))
 (ss_one (s_ret (q_var v2)))))
  ss_nil)
 (ss_cons (s_setIxH v0 (q_op opq_mod (QE.qr (q_ct cq_int (h.wd.blt (T.free 52 (by rfl)) g_int) boot_int (by decide) (by rfl) (ar_cons (QE.qr (q_op opq_add (QE.qr (q_op opq_mul (QE.qr (q_ixH v0 (fun _ _ => rfl))) (QE.qr q_int))) (QE.qr q_int))) ar_nil (by rfl)) (by rfl) (by rfl))) (QE.qr q_int)) (fun _ => rfl) (by rfl) (by rfl) (by rfl))
 (ss_cons (s_set l3 (q_op opq_mod (QE.qr (q_ct cq_int (h.wd.blt (T.free 52 (by rfl)) g_int) boot_int (by decide) (by rfl) (ar_cons (QE.qr (q_op opq_mul (QE.qr (q_ixH v0 (fun _ _ => rfl))) (QE.qr (q_op opq_add (QE.qr (q_ixH v0 (fun _ _ => rfl))) (QE.qr q_int))))) ar_nil (by rfl)) (by rfl) (by rfl))) (QE.qr q_int)) (by rfl))
 (ss_one (s_ret (q_op opq_mod (QE.qr (q_ct cq_int (h.wd.blt (T.free 52 (by rfl)) g_int) boot_int (by decide) (by rfl) (ar_cons (QE.qr (q_op opq_div (q_rd v3) (QE.qr q_int))) ar_nil (by rfl)) (by rfl) (by rfl))) (q_rd v1)))))))

theorem sc__law_some : FnScope N__law_some ["cup", "things"] (defScope s__law_some) := ⟨rfl, rfl, rfl, by decide +kernel, rfl, by decide +kernel, by decide +kernel⟩
theorem der__law_some {P : Program} {w : World} {K : PySem.W.Frag} {mg : Str → Option Value} {base : Heap} (T : Hd fa fn K mg) (c__law_roll : CalleeK P w K mg base "_law_roll" 1 2 m__law_roll) {X : Cx} {B : Gr} {W : WX} (h : Bd X W P w K mg base 1 N__law_some (defScope s__law_some)) : QSs X B W (defBody s__law_some) f__law_some := by
  have v0 := h.vr (i := 0) (x := "cup") (by rfl) (by decide +kernel)
  have v1 := h.vr (i := 1) (x := "things") (by rfl) (by decide +kernel)
  have g__law_roll := h.gl (x := "_law_roll") (by decide +kernel)
  have g_len := h.gl (x := "len") (by decide +kernel)
  exact (ss_one (s_ret (q_ix (fun _ _ => rfl) (q_rd v1) (QE.qr (q_call (Wd.callee h.wd c__law_roll g__law_roll (by rfl)) (h.wd.room.mono (by omega)) h.cc.tk (a_cons (q_var v0) (a_cons (q_cb cq_len (h.wd.blt (T.free 54 (by rfl)) g_len) boot_len (by decide) (by rfl) (ar_cons (q_rd v1) ar_nil (by rfl)) (by rfl) (by rfl)) a_nil (by rfl)) (by rfl)) (len_cons (len_cons len_nil)).len (by rfl) (by rfl))))))

theorem sc__law_sort : FnScope N__law_sort ["value"] (defScope s__law_sort) := ⟨rfl, rfl, rfl, by decide +kernel, rfl, by decide +kernel, by decide +kernel⟩
theorem der__law_sort {P : Program} {w : World} {K : PySem.W.Frag} {mg : Str → Option Value} {base : Heap} (T : Hd fa fn K mg) {X : Cx} {B : Gr} {W : WX} (h : Bd X W P w K mg base 0 N__law_sort (defScope s__law_sort)) : QSs X B W (defBody s__law_sort) f__law_sort := by
  have v0 := h.vr (i := 0) (x := "value") (by rfl) (by decide +kernel)
  have g_bool := h.gl (x := "bool") (by decide +kernel)
  have g_int := h.gl (x := "int") (by decide +kernel)
  have g_isinstance := h.gl (x := "isinstance") (by decide +kernel)
  have g_list := h.gl (x := "list") (by decide +kernel)
  have g_str := h.gl (x := "str") (by decide +kernel)
  have g_tuple := h.gl (x := "tuple") (by decide +kernel)
  exact (ss_cons (s_if (t_w (w_or (t_cmp opq_is (by with_unfolding_all rfl) (q_rd v0) (QE.qr q_non)) (w_or1 (t_val (q_cb cq_isi (h.wd.blt (T.free 53 (by rfl)) g_isinstance) boot_isinstance (by decide) (by rfl) (ar_cons (q_rd v0) (ar_cons (QE.qr (q_ty (h.wd.blt (T.free 49 (by rfl)) g_bool) boot_bool (by decide) (by rfl))) ar_nil (by rfl)) (by rfl)) (by rfl) (by rfl)) (fun _ => rfl)))))
  (ss_one (s_ret (q_if (t_cmp opq_is (by with_unfolding_all rfl) (q_rd v0) (QE.qr q_non)) q_int q_int)))
  ss_nil)
 (ss_cons (s_if (t_w (w_or (t_val (q_cb cq_isi (h.wd.blt (T.free 53 (by rfl)) g_isinstance) boot_isinstance (by decide) (by rfl) (ar_cons (q_rd v0) (ar_cons (QE.qr (q_ty (h.wd.blt (T.free 52 (by rfl)) g_int) boot_int (by decide) (by rfl))) ar_nil (by rfl)) (by rfl)) (by rfl) (by rfl)) (fun _ => rfl)) (w_or1 (t_val (q_cb cq_isi (h.wd.blt (T.free 53 (by rfl)) g_isinstance) boot_isinstance (by decide) (by rfl) (ar_cons (q_rd v0) (ar_cons (QE.qr (q_ty (h.wd.blt (T.free 60 (by rfl)) g_str) boot_str (by decide) (by rfl))) ar_nil (by rfl)) (by rfl)) (by rfl) (by rfl)) (fun _ => rfl)))))
  (ss_one (s_ret (q_if (t_val (q_cb cq_isi (h.wd.blt (T.free 53 (by rfl)) g_isinstance) boot_isinstance (by decide) (by rfl) (ar_cons (q_rd v0) (ar_cons (QE.qr (q_ty (h.wd.blt (T.free 52 (by rfl)) g_int) boot_int (by decide) (by rfl))) ar_nil (by rfl)) (by rfl)) (by rfl) (by rfl)) (fun _ => rfl)) q_int q_int)))
  ss_nil)
 (ss_one (s_ret (q_if (t_val (q_cb cq_isi (h.wd.blt (T.free 53 (by rfl)) g_isinstance) boot_isinstance (by decide) (by rfl) (ar_cons (q_rd v0) (ar_cons (QE.qr (q_ty (h.wd.blt (T.free 62 (by rfl)) g_tuple) boot_tuple (by decide) (by rfl))) ar_nil (by rfl)) (by rfl)) (by rfl) (by rfl)) (fun _ => rfl)) q_int (q_if (t_val (q_cb cq_isi (h.wd.blt (T.free 53 (by rfl)) g_isinstance) boot_isinstance (by decide) (by rfl) (ar_cons (q_rd v0) (ar_cons (QE.qr (q_ty (h.wd.blt (T.free 55 (by rfl)) g_list) boot_list (by decide) (by rfl))) ar_nil (by rfl)) (by rfl)) (by rfl) (by rfl)) (fun _ => rfl)) q_int q_int))))))

theorem sc__law_like : FnScope N__law_like ["one", "other"] (defScope s__law_like) := ⟨rfl, rfl, rfl, by decide +kernel, rfl, by decide +kernel, by decide +kernel⟩
theorem der__law_like {P : Program} {w : World} {K : PySem.W.Frag} {mg : Str → Option Value} {base : Heap} (T : Hd fa fn K mg) (c__law_sort : CalleeK P w K mg base "_law_sort" 1 1 m__law_sort) {lv : Nat} {mr : MF} (hlv : 1 ≤ lv) (c__law_like : CalleeK P w K mg base "_law_like" lv 2 mr) {X : Cx} {B : Gr} {W : WX} (h : Bd X W P w K mg base lv N__law_like (defScope s__law_like)) : QSs X B W (defBody s__law_like) (f__law_like mr) := by
  have v0 := h.vr (i := 0) (x := "one") (by rfl) (by decide +kernel)
  have v1 := h.vr (i := 1) (x := "other") (by rfl) (by decide +kernel)
  have v2 := h.vr (i := 2) (x := "sort") (by rfl) (by decide +kernel)
  have l2 := h.lr (i := 2) (x := "sort") (by rfl) (by decide +kernel)
  have n3 : X.N[3]? = some ("first" : Str) := by rw [h.hN]; rfl
  have n4 : X.N[4]? = some ("second" : Str) := by rw [h.hN]; rfl
  have g__law_sort := h.gl (x := "_law_sort") (by decide +kernel)
  have g_len := h.gl (x := "len") (by decide +kernel)
  have g_zip := h.gl (x := "zip") (by decide +kernel)
  exact (ss_cons (s_set l2 (q_call (Wd.callee h.wd c__law_sort g__law_sort (by rfl)) (h.wd.room.mono (by omega)) h.cc.tk (a_cons (q_var v1) a_nil (by rfl)) (len_cons len_nil).len (by rfl) (by rfl)) (by rfl))
 (ss_cons (s_if (t_w (w_or (t_cmp (opq_ne (h.wd).hu) (by with_unfolding_all rfl) (QE.qr (q_call (Wd.callee h.wd c__law_sort g__law_sort (by rfl)) (h.wd.room.mono (by omega)) h.cc.tk (a_cons (q_var v0) a_nil (by rfl)) (len_cons len_nil).len (by rfl) (by rfl))) (q_rd v2)) (w_or1 (t_cmp (opq_eq (h.wd).hu) (by with_unfolding_all rfl) (q_rd v2) (QE.qr q_int)))))
  (ss_one (s_ret q_bl))
  ss_nil)
 (ss_cons (s_if (t_cmp opq_in (by with_unfolding_all rfl) (q_rd v2) (QE.qr (q_tup (a_cons q_int (a_cons q_int a_nil (by rfl)) (by rfl)))))
  (ss_one (s_ret (q_and (q_cmp (opq_eq (h.wd).hu) (by with_unfolding_all rfl) (QE.qr (q_cb cq_len (h.wd.blt (T.free 54 (by rfl)) g_len) boot_len (by decide) (by rfl) (ar_cons (q_rd v0) ar_nil (by rfl)) (by rfl) (by rfl))) (QE.qr (q_cb cq_len (h.wd.blt (T.free 54 (by rfl)) g_len) boot_len (by decide) (by rfl) (ar_cons (q_rd v1) ar_nil (by rfl)) (by rfl) (by rfl)))) (q_one (q_cmp (opq_eq (h.wd).hu) (by with_unfolding_all rfl) (QE.qr (QF.qe (f_lcT h.cc (i_zip (h.wd.blt (T.free 63 (by rfl)) g_zip) (a_cons (q_var v0) (a_cons (q_var v1) a_nil (by rfl)) (by rfl)) (by rfl) (by rfl)) (own := [("first", 3), ("second", 4)]) (by rw [h.hN, h.hsc]; decide +kernel) (fun s1 H1 C1 cl1 fp1 => (g_tup (Cc.blk h.cc (by rfl)).calm (gs_cons (g_name (lr_blk h.cc.nd n3 (by decide +kernel))) (gs_cons (g_name (lr_blk h.cc.nd n4 (by decide +kernel))) gs_nil (by rfl)) (by rfl)) (gl_cons (gl_cons gl_nil)).len (by rfl) (by rfl))) (fun s1 H1 C1 cl1 fp1 => (t_not (t_val (q_call (Wd.callee (Wd.blk h.wd) c__law_like (gl_blk (by decide +kernel)) (by rfl)) ((Wd.blk h.wd).room.mono (by omega)) takes0 (a_cons (q_var (vr_blk n3 (by decide +kernel) (by rfl) (by rfl))) (a_cons (q_var (vr_blk n4 (by decide +kernel) (by rfl) (by rfl))) a_nil (by rfl)) (by rfl)) (len_cons (len_cons len_nil)).len (by rfl) (by rfl)) (fun _ => rfl)))) (fun s1 H1 C1 cl1 fp1 => q_int) (by decide) (fun _ => rfl)))) (QE.qr (QF.qe (f_lst a_nil))))))))
  ss_nil)
 (ss_one (s_ret (q_cmp (opq_eq (h.wd).hu) (by with_unfolding_all rfl) (q_rd v0) (q_rd v1)))))))

theorem sc__law_is_prime : FnScope N__law_is_prime ["number"] (defScope s__law_is_prime) := ⟨rfl, rfl, rfl, by decide +kernel, rfl, by decide +kernel, by decide +kernel⟩
theorem der__law_is_prime {P : Program} {w : World} {K : PySem.W.Frag} {mg : Str → Option Value} {base : Heap} (T : Hd fa fn K mg) {X : Cx} {B : Gr} {W : WX} (h : Bd X W P w K mg base 0 N__law_is_prime (defScope s__law_is_prime)) : QSs X B W (defBody s__law_is_prime) f__law_is_prime := by
  have v0 := h.vr (i := 0) (x := "number") (by rfl) (by decide +kernel)
  have v1 := h.vr (i := 1) (x := "found") (by rfl) (by decide +kernel)
  have l1 := h.lr (i := 1) (x := "found") (by rfl) (by decide +kernel)
  have g_int := h.gl (x := "int") (by decide +kernel)
  exact (ss_cons (s_if (t_cmp opq_lt (by with_unfolding_all rfl) (q_rd v0) (QE.qr q_int))
  (ss_one (s_ret q_bl))
  ss_nil)
 (ss_cons (s_set l1 q_int (by rfl))
 (ss_cons (s_while h.cc (t_cmp opq_le (by with_unfolding_all rfl) (QE.qr (q_op opq_mul (q_rd v1) (q_rd v1))) (q_rd v0))
  (ss_cons (s_if (t_cmp (opq_eq (h.wd).hu) (by with_unfolding_all rfl) (QE.qr (q_op opq_mod (QE.qr (q_ct cq_int (h.wd.blt (T.free 52 (by rfl)) g_int) boot_int (by decide) (by rfl) (ar_cons (q_rd v0) ar_nil (by rfl)) (by rfl) (by rfl))) (q_rd v1))) (QE.qr q_int))
  (ss_one (s_ret q_bl))
  ss_nil)
 (ss_one (s_set l1 (q_op opq_add (q_rd v1) (QE.qr q_int)) (by rfl)))))
 (ss_one (s_ret q_bl)))))

theorem sc__law_power : FnScope N__law_power ["one", "times", "number"] (defScope s__law_power) := ⟨rfl, rfl, rfl, by decide +kernel, rfl, by decide +kernel, by decide +kernel⟩
theorem der__law_power {P : Program} {w : World} {K : PySem.W.Frag} {mg : Str → Option Value} {base : Heap} (T : Hd fa fn K mg) {X : Cx} {B : Gr} {W : WX} (h : Bd X W P w K mg base 0 N__law_power (defScope s__law_power)) : QSs X B W (defBody s__law_power) f__law_power := by
  have v0 := h.vr (i := 0) (x := "one") (by rfl) (by decide +kernel)
  have v1 := h.vr (i := 1) (x := "times") (by rfl) (by decide +kernel)
  have v2 := h.vr (i := 2) (x := "number") (by rfl) (by decide +kernel)
  have v3 := h.vr (i := 3) (x := "found") (by rfl) (by decide +kernel)
  have v4 := h.vr (i := 4) (x := "here") (by rfl) (by decide +kernel)
  have l3 := h.lr (i := 3) (x := "found") (by rfl) (by decide +kernel)
  have ll1 := h.ll (i := 1) (x := "times") (by rfl) (by decide +kernel)
  have ll3 := h.ll (i := 3) (x := "found") (by rfl) (by decide +kernel)
  have ll4 := h.ll (i := 4) (x := "here") (by rfl) (by decide +kernel)
  have g_int := h.gl (x := "int") (by decide +kernel)
  exact (ss_cons (s_par2 h.cc ll3 ll4 (by decide) (a_cons q_int (a_cons (q_op opq_mod (QE.qr (q_ct cq_int (h.wd.blt (T.free 52 (by rfl)) g_int) boot_int (by decide) (by rfl) (ar_cons (q_rd v0) ar_nil (by rfl)) (by rfl) (by rfl))) (q_rd v2)) a_nil (by rfl)) (by rfl)) (sw2 h.cc.kd ll3.loc ll4.loc (by decide +kernel) (by rfl) (by rfl) (by rfl) (by rfl)) (by rfl))
 (ss_cons (s_while h.cc (t_cmp opq_gt (by with_unfolding_all rfl) (q_rd v1) (QE.qr q_int))
  (ss_cons (s_set l3 (q_if (t_cmp (opq_eq (h.wd).hu) (by with_unfolding_all rfl) (QE.qr (q_op opq_mod (QE.qr (q_ct cq_int (h.wd.blt (T.free 52 (by rfl)) g_int) boot_int (by decide) (by rfl) (ar_cons (q_rd v1) ar_nil (by rfl)) (by rfl) (by rfl))) (QE.qr q_int))) (QE.qr q_int)) (q_op opq_mod (QE.qr (q_ct cq_int (h.wd.blt (T.free 52 (by rfl)) g_int) boot_int (by decide) (by rfl) (ar_cons (QE.qr (q_op opq_mul (q_rd v3) (q_rd v4))) ar_nil (by rfl)) (by rfl) (by rfl))) (q_rd v2)) (q_var v3)) (by rfl))
 (ss_one (s_par2 h.cc ll4 ll1 (by decide) (a_cons (q_op opq_mod (QE.qr (q_ct cq_int (h.wd.blt (T.free 52 (by rfl)) g_int) boot_int (by decide) (by rfl) (ar_cons (QE.qr (q_op opq_mul (q_rd v4) (q_rd v4))) ar_nil (by rfl)) (by rfl) (by rfl))) (q_rd v2)) (a_cons (q_ct cq_int (h.wd.blt (T.free 52 (by rfl)) g_int) boot_int (by decide) (by rfl) (ar_cons (QE.qr (q_op opq_div (q_rd v1) (QE.qr q_int))) ar_nil (by rfl)) (by rfl) (by rfl)) a_nil (by rfl)) (by rfl)) (sw2 h.cc.kd ll4.loc ll1.loc (by decide +kernel) (by rfl) (by rfl) (by rfl) (by rfl)) (by rfl)))))
 (ss_one (s_ret (q_op opq_mod (QE.qr (q_ct cq_int (h.wd.blt (T.free 52 (by rfl)) g_int) boot_int (by decide) (by rfl) (ar_cons (q_rd v3) ar_nil (by rfl)) (by rfl) (by rfl))) (q_rd v2))))))

theorem sc__law_number : FnScope N__law_number ["cup", "most"] (defScope s__law_number) := ⟨rfl, rfl, rfl, by decide +kernel, rfl, by decide +kernel, by decide +kernel⟩
theorem der__law_number {P : Program} {w : World} {K : PySem.W.Frag} {mg : Str → Option Value} {base : Heap} (T : Hd fa fn K mg) (c__law_roll : CalleeK P w K mg base "_law_roll" 1 2 m__law_roll) (c__law_some : CalleeK P w K mg base "_law_some" 2 2 m__law_some) {X : Cx} {B : Gr} {W : WX} (h : Bd X W P w K mg base 2 N__law_number (defScope s__law_number)) : QSs X B W (defBody s__law_number) f__law_number := by
  have v0 := h.vr (i := 0) (x := "cup") (by rfl) (by decide +kernel)
  have v1 := h.vr (i := 1) (x := "most") (by rfl) (by decide +kernel)
  have v2 := h.vr (i := 2) (x := "way") (by rfl) (by decide +kernel)
  have v3 := h.vr (i := 3) (x := "found") (by rfl) (by decide +kernel)
  have v4 := h.vr (i := 4) (x := "primes") (by rfl) (by decide +kernel)
  have v6 := h.vr (i := 6) (x := "prime") (by rfl) (by decide +kernel)
  have l3 := h.lr (i := 3) (x := "found") (by rfl) (by decide +kernel)
  have l4 := h.lr (i := 4) (x := "primes") (by rfl) (by decide +kernel)
  have l5 := h.lr (i := 5) (x := "turn") (by rfl) (by decide +kernel)
  have l6 := h.lr (i := 6) (x := "prime") (by rfl) (by decide +kernel)
  have ll2 := h.ll (i := 2) (x := "way") (by rfl) (by decide +kernel)
  have ll3 := h.ll (i := 3) (x := "found") (by rfl) (by decide +kernel)
  have g__law_roll := h.gl (x := "_law_roll") (by decide +kernel)
  have g__law_some := h.gl (x := "_law_some") (by decide +kernel)
  have g_range := h.gl (x := "range") (by decide +kernel)
  exact (ss_cons (s_par2 h.cc ll2 ll3 (by decide) (a_cons (q_call (Wd.callee h.wd c__law_roll g__law_roll (by rfl)) (h.wd.room.mono (by omega)) h.cc.tk (a_cons (q_var v0) (a_cons q_int a_nil (by rfl)) (by rfl)) (len_cons (len_cons len_nil)).len (by rfl) (by rfl)) (a_cons q_int a_nil (by rfl)) (by rfl)) (sw2 h.cc.kd ll2.loc ll3.loc (by decide +kernel) (by rfl) (by rfl) (by rfl) (by rfl)) (by rfl))
 (ss_cons (s_if (t_cmp opq_lt (by with_unfolding_all rfl) (q_rd v2) (QE.qr q_int))
  (ss_one (s_ret (q_op opq_add (QE.qr q_int) (QE.qr (q_call (Wd.callee h.wd c__law_roll g__law_roll (by rfl)) (h.wd.room.mono (by omega)) h.cc.tk (a_cons (q_var v0) (a_cons (q_var v1) a_nil (by rfl)) (by rfl)) (len_cons (len_cons len_nil)).len (by rfl) (by rfl))))))
  ss_nil)
 (ss_cons (s_set l4 (q_if (t_cmp (opq_eq (h.wd).hu) (by with_unfolding_all rfl) (q_rd v2) (QE.qr q_int)) (QF.qe (f_lst (a_cons q_int (a_cons q_int (a_cons q_int (a_cons q_int (a_cons q_int (a_cons q_int a_nil (by rfl)) (by rfl)) (by rfl)) (by rfl)) (by rfl)) (by rfl)))) (QF.qe (f_lst (a_cons (q_call (Wd.callee h.wd c__law_some g__law_some (by rfl)) (h.wd.room.mono (by omega)) h.cc.tk (a_cons (q_var v0) (a_cons (QF.qe (f_lst (a_cons q_int (a_cons q_int (a_cons q_int (a_cons q_int (a_cons q_int a_nil (by rfl)) (by rfl)) (by rfl)) (by rfl)) (by rfl)))) a_nil (by rfl)) (by rfl)) (len_cons (len_cons len_nil)).len (by rfl) (by rfl)) a_nil (by rfl))))) (by rfl))
 (ss_cons (s_for h.cc (i_r1 (h.wd.blt (T.free 57 (by rfl)) g_range) (a_cons q_int a_nil (by rfl)) (by rfl)) (g_name l5)
  (ss_cons (s_set l6 (q_call (Wd.callee h.wd c__law_some g__law_some (by rfl)) (h.wd.room.mono (by omega)) h.cc.tk (a_cons (q_var v0) (a_cons (q_var v4) a_nil (by rfl)) (by rfl)) (len_cons (len_cons len_nil)).len (by rfl) (by rfl)) (by rfl))
 (ss_one (s_set l3 (q_if (t_cmp opq_le (by with_unfolding_all rfl) (QE.qr (q_op opq_mul (q_rd v3) (q_rd v6))) (q_rd v1)) (q_op opq_mul (q_rd v3) (q_rd v6)) (q_var v3)) (by rfl)))) (fun _ => rfl))
 (ss_one (s_ret (q_var v3)))))))

theorem sc__law_times_of : FnScope N__law_times_of ["cup"] (defScope s__law_times_of) := ⟨rfl, rfl, rfl, by decide +kernel, rfl, by decide +kernel, by decide +kernel⟩
theorem der__law_times_of {P : Program} {w : World} {K : PySem.W.Frag} {mg : Str → Option Value} {base : Heap} (T : Hd fa fn K mg) (c__law_some : CalleeK P w K mg base "_law_some" 2 2 m__law_some) {X : Cx} {B : Gr} {W : WX} (h : Bd X W P w K mg base 2 N__law_times_of (defScope s__law_times_of)) : QSs X B W (defBody s__law_times_of) f__law_times_of := by
  have v0 := h.vr (i := 0) (x := "cup") (by rfl) (by decide +kernel)
  have g__law_some := h.gl (x := "_law_some") (by decide +kernel)
  exact (ss_one (s_ret (q_call (Wd.callee h.wd c__law_some g__law_some (by rfl)) (h.wd.room.mono (by omega)) h.cc.tk (a_cons (q_var v0) (a_cons (QF.qe (f_lst (a_cons q_int (a_cons q_int (a_cons q_int (a_cons q_int (a_cons q_int (a_cons q_int (a_cons q_int (a_cons q_int (a_cons q_int (a_cons q_int (a_cons q_int (a_cons q_int (a_cons q_int a_nil (by rfl)) (by rfl)) (by rfl)) (by rfl)) (by rfl)) (by rfl)) (by rfl)) (by rfl)) (by rfl)) (by rfl)) (by rfl)) (by rfl)) (by rfl)))) a_nil (by rfl)) (by rfl)) (len_cons (len_cons len_nil)).len (by rfl) (by rfl))))

theorem sc__law_sums : FnScope N__law_sums ["number", "times"] (defScope s__law_sums) := ⟨rfl, rfl, rfl, by decide +kernel, rfl, by decide +kernel, by decide +kernel⟩
theorem der__law_sums {P : Program} {w : World} {K : PySem.W.Frag} {mg : Str → Option Value} {base : Heap} (T : Hd fa fn K mg) (c__law_power : CalleeK P w K mg base "_law_power" 1 3 m__law_power) {X : Cx} {B : Gr} {W : WX} (h : Bd X W P w K mg base 1 N__law_sums (defScope s__law_sums)) : QSs X B W (defBody s__law_sums) f__law_sums := by
  have v0 := h.vr (i := 0) (x := "number") (by rfl) (by decide +kernel)
  have v2 := h.vr (i := 2) (x := "powers") (by rfl) (by decide +kernel)
  have v3 := h.vr (i := 3) (x := "found") (by rfl) (by decide +kernel)
  have v4 := h.vr (i := 4) (x := "here") (by rfl) (by decide +kernel)
  have v5 := h.vr (i := 5) (x := "one") (by rfl) (by decide +kernel)
  have v6 := h.vr (i := 6) (x := "other") (by rfl) (by decide +kernel)
  have l2 := h.lr (i := 2) (x := "powers") (by rfl) (by decide +kernel)
  have l3 := h.lr (i := 3) (x := "found") (by rfl) (by decide +kernel)
  have l4 := h.lr (i := 4) (x := "here") (by rfl) (by decide +kernel)
  have l5 := h.lr (i := 5) (x := "one") (by rfl) (by decide +kernel)
  have l6 := h.lr (i := 6) (x := "other") (by rfl) (by decide +kernel)
  have n0 : X.N[0]? = some ("number" : Str) := by rw [h.hN]; rfl
  have k0 : X.env.scope.names.lookup ("number" : Str) = some .cell := by rw [h.hsc]; decide +kernel
  have n1 : X.N[1]? = some ("times" : Str) := by rw [h.hN]; rfl
  have k1 : X.env.scope.names.lookup ("times" : Str) = some .cell := by rw [h.hsc]; decide +kernel
  have n7 : X.N[7]? = some ("rest" : Str) := by rw [h.hN]; rfl
  have g_int := h.gl (x := "int") (by decide +kernel)
  have g_len := h.gl (x := "len") (by decide +kernel)
  have g_range := h.gl (x := "range") (by decide +kernel)
  have g_set := h.gl (x := "set") (by decide +kernel)
  have g_sorted := h.gl (x := "sorted") (by decide +kernel)
  exact (ss_cons (s_set l2 (q_sortedSet h.cc.calm (h.wd.blt (T.free 59 (by rfl)) g_sorted) (h.wd.blt (T.free 58 (by rfl)) g_set) (QE.qr (QF.qe (f_lc h.cc (i_r1 (h.wd.blt (T.free 57 (by rfl)) g_range) (a_cons (q_var v0) a_nil (by rfl)) (by rfl)) (own := [("rest", 7)]) (by rw [h.hN, h.hsc]; decide +kernel) (fun s1 H1 C1 cl1 fp1 => (g_name (lr_blk h.cc.nd n7 (by decide +kernel)))) (fun s1 H1 C1 cl1 fp1 => (q_call (Wd.callee (Wd.blk h.wd) c__law_power (gl_blk (by decide +kernel)) (by rfl)) ((Wd.blk h.wd).room.mono (by omega)) takes0 (a_cons (q_var (vr_blk n7 (by decide +kernel) (by rfl) (by rfl))) (a_cons (q_var (vr_blk n1 (by decide +kernel) (by rfl) (by rfl))) (a_cons (q_var (vr_blk n0 (by decide +kernel) (by rfl) (by rfl))) a_nil (by rfl)) (by rfl)) (by rfl)) (len_cons (len_cons (len_cons len_nil))).len (by rfl) (by rfl))) (by decide) (fun _ => rfl)))) (by rfl)) (by rfl))
 (ss_cons (s_setO l3 (f_lst (a_cons (q_var v2) a_nil (by rfl))) (by rfl))
 (ss_cons (s_while h.cc (t_cmp opq_lt (by with_unfolding_all rfl) (QE.qr (q_cb cq_len (h.wd.blt (T.free 54 (by rfl)) g_len) boot_len (by decide) (by rfl) (ar_cons (QE.qr (q_ix (fun _ _ => rfl) (q_rd v3) (QE.qr (q_neg q_int)))) ar_nil (by rfl)) (by rfl) (by rfl))) (q_rd v0))
  (ss_cons (s_setO l4 f_dnew (by rfl))
 (ss_cons (s_for h.cc (i_seq (q_ix (fun _ _ => rfl) (q_rd v3) (QE.qr (q_neg q_int)))) (g_name l5)
  (ss_one (s_for h.cc (i_seq (q_var v2)) (g_name l6)
  (ss_one (s_dset h.wd.hu1 v4 (QE.qr (q_op opq_mod (QE.qr (q_ct cq_int (h.wd.blt (T.free 52 (by rfl)) g_int) boot_int (by decide) (by rfl) (ar_cons (QE.qr (q_op opq_add (q_rd v5) (q_rd v6))) ar_nil (by rfl)) (by rfl) (by rfl))) (q_rd v0))) q_bl (by rfl))) (fun _ => rfl))) (fun _ => rfl))
 (ss_one (s_app v3 (q_cb (cq_sortedD h.cc.calm) (h.wd.blt (T.free 59 (by rfl)) g_sorted) boot_sorted (by decide) (by rfl) (ar_cons (q_rd v4) ar_nil (by rfl)) (by rfl) (by rfl)) (by rfl) (by rfl) (by rfl) (by rfl) (by rfl))))))
 (ss_frz (ss_one (s_ret (q_var v3))) 3))))

theorem sc__law_right : FnScope N__law_right ["cup", "number", "times"] (defScope s__law_right) := ⟨rfl, rfl, rfl, by decide +kernel, rfl, by decide +kernel, by decide +kernel⟩
theorem der__law_right {P : Program} {w : World} {K : PySem.W.Frag} {mg : Str → Option Value} {base : Heap} (T : Hd fa fn K mg) (c__law_sums : CalleeK P w K mg base "_law_sums" 2 2 m__law_sums) (c__law_roll : CalleeK P w K mg base "_law_roll" 1 2 m__law_roll) (c_rests_of_sums : CalleeK P w K mg base "rests_of_sums" 5 3 m_rests_of_sums) (c_least_terms : CalleeK P w K mg base "least_terms" 5 2 m_least_terms) (c__law_like : CalleeK P w K mg base "_law_like" 9 2 m__law_like) (c_power_terms : CalleeK P w K mg base "power_terms" 5 3 m_power_terms) (c__law_sort : CalleeK P w K mg base "_law_sort" 1 1 m__law_sort) (c__law_power : CalleeK P w K mg base "_law_power" 1 3 m__law_power) (c_are_power_terms : CalleeK P w K mg base "are_power_terms" 5 4 m_are_power_terms) {X : Cx} {B : Gr} {W : WX} (h : Bd X W P w K mg base 9 N__law_right (defScope s__law_right)) : QSs X B W (defBody s__law_right) f__law_right := by
  have v0 := h.vr (i := 0) (x := "cup") (by rfl) (by decide +kernel)
  have v1 := h.vr (i := 1) (x := "number") (by rfl) (by decide +kernel)
  have v2 := h.vr (i := 2) (x := "times") (by rfl) (by decide +kernel)
  have v3 := h.vr (i := 3) (x := "sums") (by rfl) (by decide +kernel)
  have v4 := h.vr (i := 4) (x := "many") (by rfl) (by decide +kernel)
  have v5 := h.vr (i := 5) (x := "due") (by rfl) (by decide +kernel)
  have v7 := h.vr (i := 7) (x := "rest") (by rfl) (by decide +kernel)
  have v8 := h.vr (i := 8) (x := "fewest") (by rfl) (by decide +kernel)
  have v9 := h.vr (i := 9) (x := "told") (by rfl) (by decide +kernel)
  have v10 := h.vr (i := 10) (x := "drawn") (by rfl) (by decide +kernel)
  have v11 := h.vr (i := 11) (x := "values") (by rfl) (by decide +kernel)
  have v12 := h.vr (i := 12) (x := "value") (by rfl) (by decide +kernel)
  have v13 := h.vr (i := 13) (x := "good") (by rfl) (by decide +kernel)
  have l3 := h.lr (i := 3) (x := "sums") (by rfl) (by decide +kernel)
  have l4 := h.lr (i := 4) (x := "many") (by rfl) (by decide +kernel)
  have l5 := h.lr (i := 5) (x := "due") (by rfl) (by decide +kernel)
  have l6 := h.lr (i := 6) (x := "turn") (by rfl) (by decide +kernel)
  have l7 := h.lr (i := 7) (x := "rest") (by rfl) (by decide +kernel)
  have l8 := h.lr (i := 8) (x := "fewest") (by rfl) (by decide +kernel)
  have l9 := h.lr (i := 9) (x := "told") (by rfl) (by decide +kernel)
  have l10 := h.lr (i := 10) (x := "drawn") (by rfl) (by decide +kernel)
  have l11 := h.lr (i := 11) (x := "values") (by rfl) (by decide +kernel)
  have l12 := h.lr (i := 12) (x := "value") (by rfl) (by decide +kernel)
  have l13 := h.lr (i := 13) (x := "good") (by rfl) (by decide +kernel)
  have n0 : X.N[0]? = some ("cup" : Str) := by rw [h.hN]; rfl
  have k0 : X.env.scope.names.lookup ("cup" : Str) = some .cell := by rw [h.hsc]; decide +kernel
  have n1 : X.N[1]? = some ("number" : Str) := by rw [h.hN]; rfl
  have k1 : X.env.scope.names.lookup ("number" : Str) = some .cell := by rw [h.hsc]; decide +kernel
  have n2 : X.N[2]? = some ("times" : Str) := by rw [h.hN]; rfl
  have k2 : X.env.scope.names.lookup ("times" : Str) = some .cell := by rw [h.hsc]; decide +kernel
  have n7 : X.N[7]? = some ("rest" : Str) := by rw [h.hN]; rfl
  have k7 : X.env.scope.names.lookup ("rest" : Str) = some .cell := by rw [h.hsc]; decide +kernel
  have n8 : X.N[8]? = some ("fewest" : Str) := by rw [h.hN]; rfl
  have k8 : X.env.scope.names.lookup ("fewest" : Str) = some .cell := by rw [h.hsc]; decide +kernel
  have n14 : X.N[14]? = some ("at" : Str) := by rw [h.hN]; rfl
  have n15 : X.N[15]? = some ("lot" : Str) := by rw [h.hN]; rfl
  have n16 : X.N[16]? = some ("odd" : Str) := by rw [h.hN]; rfl
  have n17 : X.N[17]? = some ("own" : Str) := by rw [h.hN]; rfl
  have g__law_like := h.gl (x := "_law_like") (by decide +kernel)
  have g__law_roll := h.gl (x := "_law_roll") (by decide +kernel)
  have g__law_sums := h.gl (x := "_law_sums") (by decide +kernel)
  have g_are_power_terms := h.gl (x := "are_power_terms") (by decide +kernel)
  have g_enumerate := h.gl (x := "enumerate") (by decide +kernel)
  have g_int := h.gl (x := "int") (by decide +kernel)
  have g_isinstance := h.gl (x := "isinstance") (by decide +kernel)
  have g_least_terms := h.gl (x := "least_terms") (by decide +kernel)
  have g_len := h.gl (x := "len") (by decide +kernel)
  have g_list := h.gl (x := "list") (by decide +kernel)
  have g_power_terms := h.gl (x := "power_terms") (by decide +kernel)
  have g_range := h.gl (x := "range") (by decide +kernel)
  have g_rests_of_sums := h.gl (x := "rests_of_sums") (by decide +kernel)
  have g_sum := h.gl (x := "sum") (by decide +kernel)
  have g_tuple := h.gl (x := "tuple") (by decide +kernel)
  exact (ss_cons (s_set l3 (q_call (Wd.callee h.wd c__law_sums g__law_sums (by rfl)) (h.wd.room.mono (by omega)) h.cc.tk (a_cons (q_var v1) (a_cons (q_var v2) a_nil (by rfl)) (by rfl)) (len_cons (len_cons len_nil)).len (by rfl) (by rfl)) (by rfl))
 (ss_cons (s_set l4 (q_op opq_add (QE.qr q_int) (QE.qr (q_call (Wd.callee h.wd c__law_roll g__law_roll (by rfl)) (h.wd.room.mono (by omega)) h.cc.tk (a_cons (q_var v0) (a_cons q_int a_nil (by rfl)) (by rfl)) (len_cons (len_cons len_nil)).len (by rfl) (by rfl)))) (by rfl))
 (ss_cons (s_set l5 (q_if (t_cmp opq_le (by with_unfolding_all rfl) (q_rd v4) (QE.qr (q_cb cq_len (h.wd.blt (T.free 54 (by rfl)) g_len) boot_len (by decide) (by rfl) (ar_cons (q_rd v3) ar_nil (by rfl)) (by rfl) (by rfl)))) (q_ix (fun _ _ => rfl) (q_rd v3) (QE.qr (q_op opq_sub (q_rd v4) (QE.qr q_int)))) (q_ix (fun _ _ => rfl) (q_rd v3) (QE.qr (q_neg q_int)))) (by rfl))
 (ss_cons (s_if (t_not (t_val (q_call (Wd.callee h.wd c__law_like g__law_like (by rfl)) (h.wd.room.mono (by omega)) h.cc.tk (a_cons (QF.qe (f_lst (a_cons (q_call (Wd.callee h.wd c_least_terms g_least_terms (by rfl)) (h.wd.room.mono (by omega)) h.cc.tk (a_cons (q_var v1) (a_cons (q_var v2) a_nil (by rfl)) (by rfl)) (len_cons (len_cons len_nil)).len (by rfl) (by rfl)) (a_cons (q_call (Wd.callee h.wd c_rests_of_sums g_rests_of_sums (by rfl)) (h.wd.room.mono (by omega)) h.cc.tk (a_cons (q_var v1) (a_cons (q_var v2) (a_cons (q_var v4) a_nil (by rfl)) (by rfl)) (by rfl)) (len_cons (len_cons (len_cons len_nil))).len (by rfl) (by rfl)) a_nil (by rfl)) (by rfl)))) (a_cons (QF.qe (f_lst (a_cons (q_cb cq_len (h.wd.blt (T.free 54 (by rfl)) g_len) boot_len (by decide) (by rfl) (ar_cons (q_rd v3) ar_nil (by rfl)) (by rfl) (by rfl)) (a_cons (q_ct cq_tuple (h.wd.blt (T.free 62 (by rfl)) g_tuple) boot_tuple (by decide) (by rfl) (ar_cons (q_rd v5) ar_nil (by rfl)) (by rfl) (by rfl)) a_nil (by rfl)) (by rfl)))) a_nil (by rfl)) (by rfl)) (len_cons (len_cons len_nil)).len (by rfl) (by rfl)) (fun _ => rfl)))
  (ss_one (s_ret q_bl))
  ss_nil)
 (ss_cons (s_for h.cc (i_r1 (h.wd.blt (T.free 57 (by rfl)) g_range) (a_cons q_int a_nil (by rfl)) (by rfl)) (g_name l6)
  (ss_cons (s_set l7 (q_call (Wd.callee h.wd c__law_roll g__law_roll (by rfl)) (h.wd.room.mono (by omega)) h.cc.tk (a_cons (q_var v0) (a_cons (q_var v1) a_nil (by rfl)) (by rfl)) (len_cons (len_cons len_nil)).len (by rfl) (by rfl)) (by rfl))
 (ss_cons (s_set l8 (q_ix (fun _ _ => rfl) (QE.qr (QF.qe (f_lcT h.cc (i_enum (h.wd.blt (T.free 51 (by rfl)) g_enumerate) (a_cons (q_var v3) a_nil (by rfl)) (by rfl)) (own := [("at", 14), ("lot", 15)]) (by rw [h.hN, h.hsc]; decide +kernel) (fun s1 H1 C1 cl1 fp1 => (g_tup (Cc.blk h.cc (by rfl)).calm (gs_cons (g_name (lr_blk h.cc.nd n14 (by decide +kernel))) (gs_cons (g_name (lr_blk h.cc.nd n15 (by decide +kernel))) gs_nil (by rfl)) (by rfl)) (gl_cons (gl_cons gl_nil)).len (by rfl) (by rfl))) (fun s1 H1 C1 cl1 fp1 => (t_cmp opq_in (by with_unfolding_all rfl) (q_rd (vr_blk n7 (by decide +kernel) (by rfl) (by rfl))) (q_rd (vr_blk n15 (by decide +kernel) (by rfl) (by rfl))))) (fun s1 H1 C1 cl1 fp1 => (q_op opq_add (q_rd (vr_blk n14 (by decide +kernel) (by rfl) (by rfl))) (QE.qr q_int))) (by decide) (fun _ => rfl)))) (QE.qr q_int)) (by rfl))
 (ss_cons (s_set l9 (q_call (Wd.callee h.wd c_power_terms g_power_terms (by rfl)) (h.wd.room.mono (by omega)) h.cc.tk (a_cons (q_var v1) (a_cons (q_var v2) (a_cons (q_var v7) a_nil (by rfl)) (by rfl)) (by rfl)) (len_cons (len_cons (len_cons len_nil))).len (by rfl) (by rfl)) (by rfl))
 (ss_cons (s_set l10 (q_ct cq_tuple (h.wd.blt (T.free 62 (by rfl)) g_tuple) boot_tuple (by decide) (by rfl) (ar_cons (QE.qr (QF.qe (f_lc h.cc (i_r1 (h.wd.blt (T.free 57 (by rfl)) g_range) (a_cons (q_var v8) a_nil (by rfl)) (by rfl)) (own := [("at", 14)]) (by rw [h.hN, h.hsc]; decide +kernel) (fun s2 H2 C2 cl2 fp2 => (g_name (lr_blk h.cc.nd n14 (by decide +kernel)))) (fun s2 H2 C2 cl2 fp2 => (q_call (Wd.callee (Wd.blk h.wd) c__law_roll (gl_blk (by decide +kernel)) (by rfl)) ((Wd.blk h.wd).room.mono (by omega)) takes0 (a_cons (q_var (vr_blk n0 (by decide +kernel) (by rfl) (by rfl))) (a_cons (q_var (vr_blk n1 (by decide +kernel) (by rfl) (by rfl))) a_nil (by rfl)) (by rfl)) (len_cons (len_cons len_nil)).len (by rfl) (by rfl))) (by decide) (fun _ => rfl)))) ar_nil (by rfl)) (by rfl) (by rfl)) (by rfl))
 (ss_cons (s_set l11 (QF.qe (f_lst (a_cons (q_var v9) (a_cons (q_rev (q_rd v9)) (a_cons (q_ct cq_list (h.wd.blt (T.free 55 (by rfl)) g_list) boot_list (by decide) (by rfl) (ar_cons (q_rd v9) ar_nil (by rfl)) (by rfl) (by rfl)) (a_cons (q_slice (q_rd v9) (o_some q_int) o_none) (a_cons (q_op opq_add (q_rd v9) (QE.qr (q_tup (a_cons q_int a_nil (by rfl))))) (a_cons (q_var v10) (a_cons q_non (a_cons (q_tup a_nil) (a_cons q_int (a_cons (q_op opq_repT (QE.qr (q_tup (a_cons q_int a_nil (by rfl)))) (q_rd v7)) a_nil (by rfl)) (by rfl)) (by rfl)) (by rfl)) (by rfl)) (by rfl)) (by rfl)) (by rfl)) (by rfl)) (by rfl)))) (by rfl))
 (ss_cons (s_set l11 (q_op opq_add (q_rd v11) (QE.qr (QF.qe (f_lc h.cc (i_seq (q_tup (a_cons q_non (a_cons q_bl (a_cons (q_var v1) (a_cons q_str a_nil (by rfl)) (by rfl)) (by rfl)) (by rfl)))) (own := [("odd", 16)]) (by rw [h.hN, h.hsc]; decide +kernel) (fun s3 H3 C3 cl3 fp3 => (g_name (lr_blk h.cc.nd n16 (by decide +kernel)))) (fun s3 H3 C3 cl3 fp3 => (q_op opq_repT (QE.qr (q_tup (a_cons (q_var (vr_blk n16 (by decide +kernel) (by rfl) (by rfl))) a_nil (by rfl)))) (q_rd (vr_blk n8 (by decide +kernel) (by rfl) (by rfl))))) (by decide) (fun _ => rfl))))) (by rfl))
 (ss_cons (s_for h.cc (i_seq (q_var v11)) (g_name l12)
  (ss_cons (s_set l13 (q_and (q_cb cq_isi (h.wd.blt (T.free 53 (by rfl)) g_isinstance) boot_isinstance (by decide) (by rfl) (ar_cons (q_rd v12) (ar_cons (QE.qr (q_ty (h.wd.blt (T.free 62 (by rfl)) g_tuple) boot_tuple (by decide) (by rfl))) ar_nil (by rfl)) (by rfl)) (by rfl) (by rfl)) (q_and (q_cmp (opq_eq (h.wd).hu) (by with_unfolding_all rfl) (QE.qr (q_cb cq_len (h.wd.blt (T.free 54 (by rfl)) g_len) boot_len (by decide) (by rfl) (ar_cons (q_rd v12) ar_nil (by rfl)) (by rfl) (by rfl))) (q_rd v8)) (q_one (q_cmp (opq_eq (h.wd).hu) (by with_unfolding_all rfl) (QE.qr (QF.qe (f_lcT h.cc (i_seq (q_var v12)) (own := [("own", 17)]) (by rw [h.hN, h.hsc]; decide +kernel) (fun s4 H4 C4 cl4 fp4 => (g_name (lr_blk h.cc.nd n17 (by decide +kernel)))) (fun s4 H4 C4 cl4 fp4 => (t_w (w_or (t_cmp (opq_ne ((Wd.blk h.wd)).hu) (by with_unfolding_all rfl) (QE.qr (q_call (Wd.callee (Wd.blk h.wd) c__law_sort (gl_blk (by decide +kernel)) (by rfl)) ((Wd.blk h.wd).room.mono (by omega)) takes0 (a_cons (q_var (vr_blk n17 (by decide +kernel) (by rfl) (by rfl))) a_nil (by rfl)) (len_cons len_nil).len (by rfl) (by rfl))) (QE.qr q_int)) (w_or1 (t_not (t_chain opq_le opq_lt (QE.qr q_int) (q_rd (vr_blk n17 (by decide +kernel) (by rfl) (by rfl))) (q_rd (vr_blk n1 (by decide +kernel) (by rfl) (by rfl))) (by with_unfolding_all rfl))))))) (fun s4 H4 C4 cl4 fp4 => (q_var (vr_blk n17 (by decide +kernel) (by rfl) (by rfl)))) (by decide) (fun _ => rfl)))) (QE.qr (QF.qe (f_lst a_nil))))))) (by rfl))
 (ss_cons (s_set l13 (q_and (q_var v13) (q_one (q_cmp (opq_eq (h.wd).hu) (by with_unfolding_all rfl) (QE.qr (q_op opq_mod (QE.qr (q_ct cq_int (h.wd.blt (T.free 52 (by rfl)) g_int) boot_int (by decide) (by rfl) (ar_cons (QE.qr (q_cb (cq_sum h.cc.calm) (h.wd.blt (T.free 61 (by rfl)) g_sum) boot_sum (by decide) (by rfl) (ar_cons (QE.qr (QF.qe (f_lc h.cc (i_seq (q_var v12)) (own := [("own", 17)]) (by rw [h.hN, h.hsc]; decide +kernel) (fun s5 H5 C5 cl5 fp5 => (g_name (lr_blk h.cc.nd n17 (by decide +kernel)))) (fun s5 H5 C5 cl5 fp5 => (q_call (Wd.callee (Wd.blk h.wd) c__law_power (gl_blk (by decide +kernel)) (by rfl)) ((Wd.blk h.wd).room.mono (by omega)) takes0 (a_cons (q_var (vr_blk n17 (by decide +kernel) (by rfl) (by rfl))) (a_cons (q_var (vr_blk n2 (by decide +kernel) (by rfl) (by rfl))) (a_cons (q_var (vr_blk n1 (by decide +kernel) (by rfl) (by rfl))) a_nil (by rfl)) (by rfl)) (by rfl)) (len_cons (len_cons (len_cons len_nil))).len (by rfl) (by rfl))) (by decide) (fun _ => rfl)))) ar_nil (by rfl)) (by rfl) (by rfl))) ar_nil (by rfl)) (by rfl) (by rfl))) (q_rd v1))) (q_rd v7)))) (by rfl))
 (ss_one (s_if (t_not (t_val (q_call (Wd.callee h.wd c__law_like g__law_like (by rfl)) (h.wd.room.mono (by omega)) h.cc.tk (a_cons (q_call (Wd.callee h.wd c_are_power_terms g_are_power_terms (by rfl)) (h.wd.room.mono (by omega)) h.cc.tk (a_cons (q_var v1) (a_cons (q_var v2) (a_cons (q_var v7) (a_cons (q_var v12) a_nil (by rfl)) (by rfl)) (by rfl)) (by rfl)) (len_cons (len_cons (len_cons (len_cons len_nil)))).len (by rfl) (by rfl)) (a_cons (q_var v13) a_nil (by rfl)) (by rfl)) (len_cons (len_cons len_nil)).len (by rfl) (by rfl)) (fun _ => rfl)))
  (ss_one (s_ret q_bl))
  ss_nil)))) (fun _ => rfl))
 (ss_one (s_if (t_w (w_or (t_cmp (opq_ne (h.wd).hu) (by with_unfolding_all rfl) (QE.qr (q_cb cq_len (h.wd.blt (T.free 54 (by rfl)) g_len) boot_len (by decide) (by rfl) (ar_cons (q_rd v9) ar_nil (by rfl)) (by rfl) (by rfl))) (q_rd v8)) (w_or1 (t_cmp opq_isNB (by with_unfolding_all rfl) (QE.qr (q_call (Wd.callee h.wd c_are_power_terms g_are_power_terms (by rfl)) (h.wd.room.mono (by omega)) h.cc.tk (a_cons (q_var v1) (a_cons (q_var v2) (a_cons (q_var v7) (a_cons (q_var v9) a_nil (by rfl)) (by rfl)) (by rfl)) (by rfl)) (len_cons (len_cons (len_cons (len_cons len_nil)))).len (by rfl) (by rfl))) (QE.qr q_bl)))))
  (ss_one (s_ret q_bl))
  ss_nil))))))))) (fun _ => rfl))
 (ss_one (s_ret q_bl)))))))

theorem sc__law_ways_right : FnScope N__law_ways_right ["cup", "number", "times"] (defScope s__law_ways_right) := ⟨rfl, rfl, rfl, by decide +kernel, rfl, by decide +kernel, by decide +kernel⟩
theorem der__law_ways_right {P : Program} {w : World} {K : PySem.W.Frag} {mg : Str → Option Value} {base : Heap} (T : Hd fa fn K mg) (c__law_power : CalleeK P w K mg base "_law_power" 1 3 m__law_power) (c__law_roll : CalleeK P w K mg base "_law_roll" 1 2 m__law_roll) (c_count_power_sums : CalleeK P w K mg base "count_power_sums" 5 4 m_count_power_sums) (c__law_like : CalleeK P w K mg base "_law_like" 9 2 m__law_like) {X : Cx} {B : Gr} {W : WX} (h : Bd X W P w K mg base 9 N__law_ways_right (defScope s__law_ways_right)) : QSs X B W (defBody s__law_ways_right) f__law_ways_right := by
  have v0 := h.vr (i := 0) (x := "cup") (by rfl) (by decide +kernel)
  have v1 := h.vr (i := 1) (x := "number") (by rfl) (by decide +kernel)
  have v2 := h.vr (i := 2) (x := "times") (by rfl) (by decide +kernel)
  have v3 := h.vr (i := 3) (x := "powers") (by rfl) (by decide +kernel)
  have v4 := h.vr (i := 4) (x := "rest") (by rfl) (by decide +kernel)
  have v5 := h.vr (i := 5) (x := "due") (by rfl) (by decide +kernel)
  have v6 := h.vr (i := 6) (x := "many") (by rfl) (by decide +kernel)
  have v7 := h.vr (i := 7) (x := "whole") (by rfl) (by decide +kernel)
  have l3 := h.lr (i := 3) (x := "powers") (by rfl) (by decide +kernel)
  have l4 := h.lr (i := 4) (x := "rest") (by rfl) (by decide +kernel)
  have l5 := h.lr (i := 5) (x := "due") (by rfl) (by decide +kernel)
  have l6 := h.lr (i := 6) (x := "many") (by rfl) (by decide +kernel)
  have l7 := h.lr (i := 7) (x := "whole") (by rfl) (by decide +kernel)
  have l8 := h.lr (i := 8) (x := "turn") (by rfl) (by decide +kernel)
  have n1 : X.N[1]? = some ("number" : Str) := by rw [h.hN]; rfl
  have k1 : X.env.scope.names.lookup ("number" : Str) = some .cell := by rw [h.hsc]; decide +kernel
  have n2 : X.N[2]? = some ("times" : Str) := by rw [h.hN]; rfl
  have k2 : X.env.scope.names.lookup ("times" : Str) = some .cell := by rw [h.hsc]; decide +kernel
  have n3 : X.N[3]? = some ("powers" : Str) := by rw [h.hN]; rfl
  have k3 : X.env.scope.names.lookup ("powers" : Str) = some .cell := by rw [h.hsc]; decide +kernel
  have n4 : X.N[4]? = some ("rest" : Str) := by rw [h.hN]; rfl
  have k4 : X.env.scope.names.lookup ("rest" : Str) = some .cell := by rw [h.hsc]; decide +kernel
  have n6 : X.N[6]? = some ("many" : Str) := by rw [h.hN]; rfl
  have k6 : X.env.scope.names.lookup ("many" : Str) = some .cell := by rw [h.hsc]; decide +kernel
  have n9 : X.N[9]? = some ("one" : Str) := by rw [h.hN]; rfl
  have n10 : X.N[10]? = some ("own" : Str) := by rw [h.hN]; rfl
  have g__law_like := h.gl (x := "_law_like") (by decide +kernel)
  have g__law_roll := h.gl (x := "_law_roll") (by decide +kernel)
  have g_count_power_sums := h.gl (x := "count_power_sums") (by decide +kernel)
  have g_len := h.gl (x := "len") (by decide +kernel)
  have g_range := h.gl (x := "range") (by decide +kernel)
  have g_set := h.gl (x := "set") (by decide +kernel)
  have g_sorted := h.gl (x := "sorted") (by decide +kernel)
  have g_sum := h.gl (x := "sum") (by decide +kernel)
  exact (ss_cons (s_set l3 (QF.qe (f_lc h.cc (i_r1 (h.wd.blt (T.free 57 (by rfl)) g_range) (a_cons (q_var v1) a_nil (by rfl)) (by rfl)) (own := [("rest", 4)]) (by rw [h.hN, h.hsc]; decide +kernel) (fun s1 H1 C1 cl1 fp1 => (g_name (lr_blk h.cc.nd n4 (by decide +kernel)))) (fun s1 H1 C1 cl1 fp1 => (q_call (Wd.callee (Wd.blk h.wd) c__law_power (gl_blk (by decide +kernel)) (by rfl)) ((Wd.blk h.wd).room.mono (by omega)) takes0 (a_cons (q_var (vr_blk n4 (by decide +kernel) (by rfl) (by rfl))) (a_cons (q_var (vr_blk n2 (by decide +kernel) (by rfl) (by rfl))) (a_cons (q_var (vr_blk n1 (by decide +kernel) (by rfl) (by rfl))) a_nil (by rfl)) (by rfl)) (by rfl)) (len_cons (len_cons (len_cons len_nil))).len (by rfl) (by rfl))) (by decide) (fun _ => rfl))) (sw_cell k3))
 (ss_cons (s_set l4 (q_call (Wd.callee h.wd c__law_roll g__law_roll (by rfl)) (h.wd.room.mono (by omega)) h.cc.tk (a_cons (q_var v0) (a_cons (q_var v1) a_nil (by rfl)) (by rfl)) (len_cons (len_cons len_nil)).len (by rfl) (by rfl)) (by rfl))
 (ss_cons (s_set l5 (q_cb (cq_sum h.cc.calm) (h.wd.blt (T.free 61 (by rfl)) g_sum) boot_sum (by decide) (by rfl) (ar_cons (QE.qr (QF.qe (f_lc h.cc (i_seq (q_var v3)) (own := [("one", 9)]) (by rw [h.hN, h.hsc]; decide +kernel) (fun s2 H2 C2 cl2 fp2 => (g_name (lr_blk h.cc.nd n9 (by decide +kernel)))) (fun s2 H2 C2 cl2 fp2 => (q_count (q_rd (vr_blk n3 (by decide +kernel) (by rfl) (by rfl))) (q_op opq_mod (QE.qr (q_ct cq_int ((Wd.blk h.wd).blt (T.free 52 (by rfl)) (gl_blk (by decide +kernel))) boot_int (by decide) (by rfl) (ar_cons (QE.qr (q_op opq_sub (q_rd (vr_blk n4 (by decide +kernel) (by rfl) (by rfl))) (q_rd (vr_blk n9 (by decide +kernel) (by rfl) (by rfl))))) ar_nil (by rfl)) (by rfl) (by rfl))) (q_rd (vr_blk n1 (by decide +kernel) (by rfl) (by rfl)))) (by rfl) (by rfl) (by rfl) (by rfl) (by rfl))) (by decide) (fun _ => rfl)))) ar_nil (by rfl)) (by rfl) (by rfl)) (by rfl))
 (ss_cons (s_if (t_not (t_val (q_call (Wd.callee h.wd c__law_like g__law_like (by rfl)) (h.wd.room.mono (by omega)) h.cc.tk (a_cons (QF.qe (f_lst (a_cons (q_call (Wd.callee h.wd c_count_power_sums g_count_power_sums (by rfl)) (h.wd.room.mono (by omega)) h.cc.tk (a_cons (q_var v1) (a_cons (q_var v2) (a_cons q_int (a_cons (q_var v4) a_nil (by rfl)) (by rfl)) (by rfl)) (by rfl)) (len_cons (len_cons (len_cons (len_cons len_nil)))).len (by rfl) (by rfl)) (a_cons (q_call (Wd.callee h.wd c_count_power_sums g_count_power_sums (by rfl)) (h.wd.room.mono (by omega)) h.cc.tk (a_cons (q_var v1) (a_cons (q_var v2) (a_cons q_int (a_cons (q_var v4) a_nil (by rfl)) (by rfl)) (by rfl)) (by rfl)) (len_cons (len_cons (len_cons (len_cons len_nil)))).len (by rfl) (by rfl)) a_nil (by rfl)) (by rfl)))) (a_cons (QF.qe (f_lst (a_cons (q_var v5) (a_cons (q_count (q_rd v3) (q_var v4) (by rfl) (by rfl) (by rfl) (by rfl) (by rfl)) a_nil (by rfl)) (by rfl)))) a_nil (by rfl)) (by rfl)) (len_cons (len_cons len_nil)).len (by rfl) (by rfl)) (fun _ => rfl)))
  (ss_one (s_ret q_bl))
  ss_nil)
 (ss_cons (s_set l6 (q_op opq_add (QE.qr q_int) (QE.qr (q_call (Wd.callee h.wd c__law_roll g__law_roll (by rfl)) (h.wd.room.mono (by omega)) h.cc.tk (a_cons (q_var v0) (a_cons q_int a_nil (by rfl)) (by rfl)) (len_cons (len_cons len_nil)).len (by rfl) (by rfl)))) (by rfl))
 (ss_cons (s_set l5 (q_cb (cq_sum h.cc.calm) (h.wd.blt (T.free 61 (by rfl)) g_sum) boot_sum (by decide) (by rfl) (ar_cons (QE.qr (QF.qe (f_lc h.cc (i_seq (q_slice (QE.qr (q_sortedSet h.cc.calm (h.wd.blt (T.free 59 (by rfl)) g_sorted) (h.wd.blt (T.free 58 (by rfl)) g_set) (q_rd v3) (by rfl))) o_none (o_some q_int))) (own := [("own", 10)]) (by rw [h.hN, h.hsc]; decide +kernel) (fun s3 H3 C3 cl3 fp3 => (g_name (lr_blk h.cc.nd n10 (by decide +kernel)))) (fun s3 H3 C3 cl3 fp3 => (q_op opq_mul (QE.qr (q_call (Wd.callee (Wd.blk h.wd) c_count_power_sums (gl_blk (by decide +kernel)) (by rfl)) ((Wd.blk h.wd).room.mono (by omega)) takes0 (a_cons (q_var (vr_blk n1 (by decide +kernel) (by rfl) (by rfl))) (a_cons (q_var (vr_blk n2 (by decide +kernel) (by rfl) (by rfl))) (a_cons (q_op opq_sub (q_rd (vr_blk n6 (by decide +kernel) (by rfl) (by rfl))) (QE.qr q_int)) (a_cons (q_op opq_mod (QE.qr (q_ct cq_int ((Wd.blk h.wd).blt (T.free 52 (by rfl)) (gl_blk (by decide +kernel))) boot_int (by decide) (by rfl) (ar_cons (QE.qr (q_op opq_sub (q_rd (vr_blk n4 (by decide +kernel) (by rfl) (by rfl))) (q_rd (vr_blk n10 (by decide +kernel) (by rfl) (by rfl))))) ar_nil (by rfl)) (by rfl) (by rfl))) (q_rd (vr_blk n1 (by decide +kernel) (by rfl) (by rfl)))) a_nil (by rfl)) (by rfl)) (by rfl)) (by rfl)) (len_cons (len_cons (len_cons (len_cons len_nil)))).len (by rfl) (by rfl))) (QE.qr (q_count (q_rd (vr_blk n3 (by decide +kernel) (by rfl) (by rfl))) (q_var (vr_blk n10 (by decide +kernel) (by rfl) (by rfl))) (by rfl) (by rfl) (by rfl) (by rfl) (by rfl))))) (by decide) (fun _ => rfl)))) ar_nil (by rfl)) (by rfl) (by rfl)) (by rfl))
 (ss_cons (s_if (t_w (w_and (t_cmp opq_le (by with_unfolding_all rfl) (QE.qr (q_lenSet h.cc.calm (h.wd.blt (T.free 54 (by rfl)) g_len) (h.wd.blt (T.free 58 (by rfl)) g_set) (q_rd v3) (by rfl))) (QE.qr q_int)) (w_and1 (t_not (t_val (q_call (Wd.callee h.wd c__law_like g__law_like (by rfl)) (h.wd.room.mono (by omega)) h.cc.tk (a_cons (q_call (Wd.callee h.wd c_count_power_sums g_count_power_sums (by rfl)) (h.wd.room.mono (by omega)) h.cc.tk (a_cons (q_var v1) (a_cons (q_var v2) (a_cons (q_var v6) (a_cons (q_var v4) a_nil (by rfl)) (by rfl)) (by rfl)) (by rfl)) (len_cons (len_cons (len_cons (len_cons len_nil)))).len (by rfl) (by rfl)) (a_cons (q_var v5) a_nil (by rfl)) (by rfl)) (len_cons (len_cons len_nil)).len (by rfl) (by rfl)) (fun _ => rfl))))))
  (ss_one (s_ret q_bl))
  ss_nil)
 (ss_cons (s_set l7 q_int (by rfl))
 (ss_cons (s_for h.cc (i_r1 (h.wd.blt (T.free 57 (by rfl)) g_range) (a_cons (q_var v6) a_nil (by rfl)) (by rfl)) (g_name l8)
  (ss_one (s_set l7 (q_op opq_mul (q_rd v7) (q_rd v1)) (by rfl))) (fun _ => rfl))
 (ss_one (s_ret (q_or (q_cmp opq_gt (by with_unfolding_all rfl) (q_rd v1) (QE.qr q_int)) (q_one (q_cmp (opq_eq (h.wd).hu) (by with_unfolding_all rfl) (QE.qr (q_cb (cq_sum h.cc.calm) (h.wd.blt (T.free 61 (by rfl)) g_sum) boot_sum (by decide) (by rfl) (ar_cons (QE.qr (QF.qe (f_lc h.cc (i_r1 (h.wd.blt (T.free 57 (by rfl)) g_range) (a_cons (q_var v1) a_nil (by rfl)) (by rfl)) (own := [("own", 10)]) (by rw [h.hN, h.hsc]; decide +kernel) (fun s4 H4 C4 cl4 fp4 => (g_name (lr_blk h.cc.nd n10 (by decide +kernel)))) (fun s4 H4 C4 cl4 fp4 => (q_call (Wd.callee (Wd.blk h.wd) c_count_power_sums (gl_blk (by decide +kernel)) (by rfl)) ((Wd.blk h.wd).room.mono (by omega)) takes0 (a_cons (q_var (vr_blk n1 (by decide +kernel) (by rfl) (by rfl))) (a_cons (q_var (vr_blk n2 (by decide +kernel) (by rfl) (by rfl))) (a_cons (q_var (vr_blk n6 (by decide +kernel) (by rfl) (by rfl))) (a_cons (q_var (vr_blk n10 (by decide +kernel) (by rfl) (by rfl))) a_nil (by rfl)) (by rfl)) (by rfl)) (by rfl)) (len_cons (len_cons (len_cons (len_cons len_nil)))).len (by rfl) (by rfl))) (by decide) (fun _ => rfl)))) ar_nil (by rfl)) (by rfl) (by rfl))) (q_rd v7)))))))))))))))

theorem sc__law_primes_right : FnScope N__law_primes_right ["cup"] (defScope s__law_primes_right) := ⟨rfl, rfl, rfl, by decide +kernel, rfl, by decide +kernel, by decide +kernel⟩
theorem der__law_primes_right {P : Program} {w : World} {K : PySem.W.Frag} {mg : Str → Option Value} {base : Heap} (T : Hd fa fn K mg) (c__law_roll : CalleeK P w K mg base "_law_roll" 1 2 m__law_roll) (c__law_is_prime : CalleeK P w K mg base "_law_is_prime" 1 1 m__law_is_prime) (c_count_power_sums : CalleeK P w K mg base "count_power_sums" 5 4 m_count_power_sums) (c__law_like : CalleeK P w K mg base "_law_like" 9 2 m__law_like) {X : Cx} {B : Gr} {W : WX} (h : Bd X W P w K mg base 9 N__law_primes_right (defScope s__law_primes_right)) : QSs X B W (defBody s__law_primes_right) f__law_primes_right := by
  have v0 := h.vr (i := 0) (x := "cup") (by rfl) (by decide +kernel)
  have v1 := h.vr (i := 1) (x := "prime") (by rfl) (by decide +kernel)
  have v2 := h.vr (i := 2) (x := "other") (by rfl) (by decide +kernel)
  have v3 := h.vr (i := 3) (x := "square") (by rfl) (by decide +kernel)
  have v4 := h.vr (i := 4) (x := "root") (by rfl) (by decide +kernel)
  have v5 := h.vr (i := 5) (x := "own") (by rfl) (by decide +kernel)
  have l1 := h.lr (i := 1) (x := "prime") (by rfl) (by decide +kernel)
  have l2 := h.lr (i := 2) (x := "other") (by rfl) (by decide +kernel)
  have l3 := h.lr (i := 3) (x := "square") (by rfl) (by decide +kernel)
  have l4 := h.lr (i := 4) (x := "root") (by rfl) (by decide +kernel)
  have l5 := h.lr (i := 5) (x := "own") (by rfl) (by decide +kernel)
  have g__law_is_prime := h.gl (x := "_law_is_prime") (by decide +kernel)
  have g__law_like := h.gl (x := "_law_like") (by decide +kernel)
  have g__law_roll := h.gl (x := "_law_roll") (by decide +kernel)
  have g_count_power_sums := h.gl (x := "count_power_sums") (by decide +kernel)
  have g_int := h.gl (x := "int") (by decide +kernel)
  have g_range := h.gl (x := "range") (by decide +kernel)
  exact (ss_cons (s_set l1 (q_op opq_add (QE.qr q_int) (QE.qr (q_call (Wd.callee h.wd c__law_roll g__law_roll (by rfl)) (h.wd.room.mono (by omega)) h.cc.tk (a_cons (q_var v0) (a_cons q_int a_nil (by rfl)) (by rfl)) (len_cons (len_cons len_nil)).len (by rfl) (by rfl)))) (by rfl))
 (ss_cons (s_while h.cc (t_not (t_val (q_call (Wd.callee h.wd c__law_is_prime g__law_is_prime (by rfl)) (h.wd.room.mono (by omega)) h.cc.tk (a_cons (q_var v1) a_nil (by rfl)) (len_cons len_nil).len (by rfl) (by rfl)) (fun _ => rfl)))
  (ss_one (s_set l1 (q_op opq_add (q_rd v1) (QE.qr q_int)) (by rfl))))
 (ss_cons (s_if (t_not (t_val (q_call (Wd.callee h.wd c__law_like g__law_like (by rfl)) (h.wd.room.mono (by omega)) h.cc.tk (a_cons (q_call (Wd.callee h.wd c_count_power_sums g_count_power_sums (by rfl)) (h.wd.room.mono (by omega)) h.cc.tk (a_cons (q_var v1) (a_cons q_int (a_cons q_int (a_cons q_int a_nil (by rfl)) (by rfl)) (by rfl)) (by rfl)) (len_cons (len_cons (len_cons (len_cons len_nil)))).len (by rfl) (by rfl)) (a_cons (q_op opq_sub (q_rd v1) (QE.qr (q_if (t_cmp (opq_eq (h.wd).hu) (by with_unfolding_all rfl) (QE.qr (q_op opq_mod (QE.qr (q_ct cq_int (h.wd.blt (T.free 52 (by rfl)) g_int) boot_int (by decide) (by rfl) (ar_cons (q_rd v1) ar_nil (by rfl)) (by rfl) (by rfl))) (QE.qr q_int))) (QE.qr q_int)) q_int (q_neg q_int)))) a_nil (by rfl)) (by rfl)) (len_cons (len_cons len_nil)).len (by rfl) (by rfl)) (fun _ => rfl)))
  (ss_one (s_ret q_bl))
  ss_nil)
 (ss_cons (s_if (t_cmp (opq_eq (h.wd).hu) (by with_unfolding_all rfl) (QE.qr (q_op opq_mod (QE.qr (q_ct cq_int (h.wd.blt (T.free 52 (by rfl)) g_int) boot_int (by decide) (by rfl) (ar_cons (q_rd v1) ar_nil (by rfl)) (by rfl) (by rfl))) (QE.qr q_int))) (QE.qr q_int))
  (ss_one (s_ret (q_call (Wd.callee h.wd c__law_like g__law_like (by rfl)) (h.wd.room.mono (by omega)) h.cc.tk (a_cons (q_call (Wd.callee h.wd c_count_power_sums g_count_power_sums (by rfl)) (h.wd.room.mono (by omega)) h.cc.tk (a_cons (q_var v1) (a_cons q_int (a_cons q_int (a_cons q_int a_nil (by rfl)) (by rfl)) (by rfl)) (by rfl)) (len_cons (len_cons (len_cons (len_cons len_nil)))).len (by rfl) (by rfl)) (a_cons (q_var v1) a_nil (by rfl)) (by rfl)) (len_cons (len_cons len_nil)).len (by rfl) (by rfl))))
  ss_nil)
 (ss_cons (s_for h.cc (i_r2 (h.wd.blt (T.free 57 (by rfl)) g_range) (a_cons q_int (a_cons q_int a_nil (by rfl)) (by rfl)) (by rfl) (by rfl)) (g_name l2)
  (ss_cons (s_set l3 (q_op opq_sub (QE.qr (q_op opq_mul (QE.qr q_int) (q_rd v1))) (QE.qr (q_op opq_mul (QE.qr (q_op opq_mul (QE.qr q_int) (q_rd v2))) (q_rd v2)))) (by rfl))
 (ss_one (s_for h.cc (i_r2 (h.wd.blt (T.free 57 (by rfl)) g_range) (a_cons q_int (a_cons q_int a_nil (by rfl)) (by rfl)) (by rfl) (by rfl)) (g_name l4)
  (ss_one (s_if (t_cmp (opq_eq (h.wd).hu) (by with_unfolding_all rfl) (QE.qr (q_op opq_mul (q_rd v4) (q_rd v4))) (q_rd v3))
  (ss_cons (s_set l5 (q_if (t_cmp (opq_eq (h.wd).hu) (by with_unfolding_all rfl) (QE.qr (q_op opq_mod (QE.qr (q_ct cq_int (h.wd.blt (T.free 52 (by rfl)) g_int) boot_int (by decide) (by rfl) (ar_cons (q_rd v4) ar_nil (by rfl)) (by rfl) (by rfl))) (QE.qr q_int))) (QE.qr q_int)) (q_var v4) (q_op opq_sub (QE.qr q_int) (q_rd v4))) (by rfl))
 (ss_one (s_ret (q_call (Wd.callee h.wd c__law_like g__law_like (by rfl)) (h.wd.room.mono (by omega)) h.cc.tk (a_cons (q_call (Wd.callee h.wd c_count_power_sums g_count_power_sums (by rfl)) (h.wd.room.mono (by omega)) h.cc.tk (a_cons (q_var v1) (a_cons q_int (a_cons q_int (a_cons q_int a_nil (by rfl)) (by rfl)) (by rfl)) (by rfl)) (len_cons (len_cons (len_cons (len_cons len_nil)))).len (by rfl) (by rfl)) (a_cons (q_op opq_add (QE.qr (q_op opq_sub (q_rd v1) (QE.qr q_int))) (q_rd v5)) a_nil (by rfl)) (by rfl)) (len_cons (len_cons len_nil)).len (by rfl) (by rfl)))))
  ss_nil)) (fun _ => rfl)))) (fun _ => rfl))
 (ss_one (s_ret q_bl)))))))

theorem sc_law : FnScope N_law ["script"] (defScope s_law) := ⟨rfl, rfl, rfl, by decide +kernel, rfl, by decide +kernel, by decide +kernel⟩
theorem der_law {P : Program} {w : World} {K : PySem.W.Frag} {mg : Str → Option Value} {base : Heap} (T : Hd fa fn K mg) (c__law_cup : CalleeK P w K mg base "_law_cup" 1 1 m__law_cup) (c_power_terms : CalleeK P w K mg base "power_terms" 5 3 m_power_terms) (c_rests_of_sums : CalleeK P w K mg base "rests_of_sums" 5 3 m_rests_of_sums) (c_least_terms : CalleeK P w K mg base "least_terms" 5 2 m_least_terms) (c_count_power_sums : CalleeK P w K mg base "count_power_sums" 5 4 m_count_power_sums) (c_are_power_terms : CalleeK P w K mg base "are_power_terms" 5 4 m_are_power_terms) (c__law_like : CalleeK P w K mg base "_law_like" 9 2 m__law_like) (c__law_times_of : CalleeK P w K mg base "_law_times_of" 3 1 m__law_times_of) (c__law_number : CalleeK P w K mg base "_law_number" 3 2 m__law_number) (c__law_right : CalleeK P w K mg base "_law_right" 10 3 m__law_right) (c__law_ways_right : CalleeK P w K mg base "_law_ways_right" 10 3 m__law_ways_right) (c__law_primes_right : CalleeK P w K mg base "_law_primes_right" 10 1 m__law_primes_right) (c__law_some : CalleeK P w K mg base "_law_some" 2 2 m__law_some) (c_power_rests : CalleeK P w K mg base "power_rests" 4 2 m_power_rests) {X : Cx} {B : Gr} {W : WX} (h : Bd X W P w K mg base 10 N_law (defScope s_law)) : QSs X B W (defBody s_law) f_law := by
  have v0 := h.vr (i := 0) (x := "script") (by rfl) (by decide +kernel)
  have v1 := h.vr (i := 1) (x := "cup") (by rfl) (by decide +kernel)
  have v2 := h.vr (i := 2) (x := "told") (by rfl) (by decide +kernel)
  have v3 := h.vr (i := 3) (x := "most") (by rfl) (by decide +kernel)
  have v4 := h.vr (i := 4) (x := "prime") (by rfl) (by decide +kernel)
  have v5 := h.vr (i := 5) (x := "times") (by rfl) (by decide +kernel)
  have v6 := h.vr (i := 6) (x := "own") (by rfl) (by decide +kernel)
  have v7 := h.vr (i := 7) (x := "double") (by rfl) (by decide +kernel)
  have l1 := h.lr (i := 1) (x := "cup") (by rfl) (by decide +kernel)
  have l2 := h.lr (i := 2) (x := "told") (by rfl) (by decide +kernel)
  have l3 := h.lr (i := 3) (x := "most") (by rfl) (by decide +kernel)
  have l4 := h.lr (i := 4) (x := "prime") (by rfl) (by decide +kernel)
  have l5 := h.lr (i := 5) (x := "times") (by rfl) (by decide +kernel)
  have l6 := h.lr (i := 6) (x := "own") (by rfl) (by decide +kernel)
  have l7 := h.lr (i := 7) (x := "double") (by rfl) (by decide +kernel)
  have g__law_cup := h.gl (x := "_law_cup") (by decide +kernel)
  have g__law_like := h.gl (x := "_law_like") (by decide +kernel)
  have g__law_number := h.gl (x := "_law_number") (by decide +kernel)
  have g__law_primes_right := h.gl (x := "_law_primes_right") (by decide +kernel)
  have g__law_right := h.gl (x := "_law_right") (by decide +kernel)
  have g__law_some := h.gl (x := "_law_some") (by decide +kernel)
  have g__law_times_of := h.gl (x := "_law_times_of") (by decide +kernel)
  have g__law_ways_right := h.gl (x := "_law_ways_right") (by decide +kernel)
  have g_are_power_terms := h.gl (x := "are_power_terms") (by decide +kernel)
  have g_count_power_sums := h.gl (x := "count_power_sums") (by decide +kernel)
  have g_least_terms := h.gl (x := "least_terms") (by decide +kernel)
  have g_power_rests := h.gl (x := "power_rests") (by decide +kernel)
  have g_power_terms := h.gl (x := "power_terms") (by decide +kernel)
  have g_rests_of_sums := h.gl (x := "rests_of_sums") (by decide +kernel)
  exact (ss_cons (s_set l1 (q_call (Wd.callee h.wd c__law_cup g__law_cup (by rfl)) (h.wd.room.mono (by omega)) h.cc.tk (a_cons (q_var v0) a_nil (by rfl)) (len_cons len_nil).len (by rfl) (by rfl)) (by rfl))
 (ss_cons (s_set l2 (QF.qe (f_lst (a_cons (q_call (Wd.callee h.wd c_least_terms g_least_terms (by rfl)) (h.wd.room.mono (by omega)) h.cc.tk (a_cons q_int (a_cons q_int a_nil (by rfl)) (by rfl)) (len_cons (len_cons len_nil)).len (by rfl) (by rfl)) (a_cons (q_call (Wd.callee h.wd c_least_terms g_least_terms (by rfl)) (h.wd.room.mono (by omega)) h.cc.tk (a_cons q_int (a_cons q_int a_nil (by rfl)) (by rfl)) (len_cons (len_cons len_nil)).len (by rfl) (by rfl)) (a_cons (q_call (Wd.callee h.wd c_least_terms g_least_terms (by rfl)) (h.wd.room.mono (by omega)) h.cc.tk (a_cons q_int (a_cons q_int a_nil (by rfl)) (by rfl)) (len_cons (len_cons len_nil)).len (by rfl) (by rfl)) (a_cons (q_call (Wd.callee h.wd c_least_terms g_least_terms (by rfl)) (h.wd.room.mono (by omega)) h.cc.tk (a_cons q_int (a_cons q_int a_nil (by rfl)) (by rfl)) (len_cons (len_cons len_nil)).len (by rfl) (by rfl)) (a_cons (q_call (Wd.callee h.wd c_rests_of_sums g_rests_of_sums (by rfl)) (h.wd.room.mono (by omega)) h.cc.tk (a_cons q_int (a_cons q_int (a_cons q_int a_nil (by rfl)) (by rfl)) (by rfl)) (len_cons (len_cons (len_cons len_nil))).len (by rfl) (by rfl)) (a_cons (q_call (Wd.callee h.wd c_power_terms g_power_terms (by rfl)) (h.wd.room.mono (by omega)) h.cc.tk (a_cons q_int (a_cons q_int (a_cons q_int a_nil (by rfl)) (by rfl)) (by rfl)) (len_cons (len_cons (len_cons len_nil))).len (by rfl) (by rfl)) a_nil (by rfl)) (by rfl)) (by rfl)) (by rfl)) (by rfl)) (by rfl)))) (by rfl))
 (ss_cons (s_set l2 (q_op opq_add (q_rd v2) (QE.qr (QF.qe (f_lst (a_cons (q_call (Wd.callee h.wd c_are_power_terms g_are_power_terms (by rfl)) (h.wd.room.mono (by omega)) h.cc.tk (a_cons q_int (a_cons q_int (a_cons q_int (a_cons (q_tup (a_cons q_int (a_cons q_int (a_cons q_int a_nil (by rfl)) (by rfl)) (by rfl))) a_nil (by rfl)) (by rfl)) (by rfl)) (by rfl)) (len_cons (len_cons (len_cons (len_cons len_nil)))).len (by rfl) (by rfl)) (a_cons (q_call (Wd.callee h.wd c_are_power_terms g_are_power_terms (by rfl)) (h.wd.room.mono (by omega)) h.cc.tk (a_cons q_int (a_cons q_int (a_cons q_int (a_cons (q_tup (a_cons q_int (a_cons q_int a_nil (by rfl)) (by rfl))) a_nil (by rfl)) (by rfl)) (by rfl)) (by rfl)) (len_cons (len_cons (len_cons (len_cons len_nil)))).len (by rfl) (by rfl)) (a_cons (q_call (Wd.callee h.wd c_are_power_terms g_are_power_terms (by rfl)) (h.wd.room.mono (by omega)) h.cc.tk (a_cons q_int (a_cons q_int (a_cons q_int (a_cons (q_tup (a_cons q_int a_nil (by rfl))) a_nil (by rfl)) (by rfl)) (by rfl)) (by rfl)) (len_cons (len_cons (len_cons (len_cons len_nil)))).len (by rfl) (by rfl)) (a_cons (q_call (Wd.callee h.wd c_count_power_sums g_count_power_sums (by rfl)) (h.wd.room.mono (by omega)) h.cc.tk (a_cons q_int (a_cons q_int (a_cons q_int (a_cons q_int a_nil (by rfl)) (by rfl)) (by rfl)) (by rfl)) (len_cons (len_cons (len_cons (len_cons len_nil)))).len (by rfl) (by rfl)) a_nil (by rfl)) (by rfl)) (by rfl)) (by rfl)))))) (by rfl))
 (ss_cons (s_set l2 (q_op opq_add (q_rd v2) (QE.qr (QF.qe (f_lst (a_cons (q_call (Wd.callee h.wd c_count_power_sums g_count_power_sums (by rfl)) (h.wd.room.mono (by omega)) h.cc.tk (a_cons q_int (a_cons q_int (a_cons q_int (a_cons q_int a_nil (by rfl)) (by rfl)) (by rfl)) (by rfl)) (len_cons (len_cons (len_cons (len_cons len_nil)))).len (by rfl) (by rfl)) (a_cons (q_call (Wd.callee h.wd c_count_power_sums g_count_power_sums (by rfl)) (h.wd.room.mono (by omega)) h.cc.tk (a_cons q_int (a_cons q_int (a_cons q_int (a_cons q_int a_nil (by rfl)) (by rfl)) (by rfl)) (by rfl)) (len_cons (len_cons (len_cons (len_cons len_nil)))).len (by rfl) (by rfl)) a_nil (by rfl)) (by rfl)))))) (by rfl))
 (ss_cons (s_if (t_not (t_val (q_call (Wd.callee h.wd c__law_like g__law_like (by rfl)) (h.wd.room.mono (by omega)) h.cc.tk (a_cons (q_var v2) (a_cons (QF.qe (f_lst (a_cons q_int (a_cons q_int (a_cons q_int (a_cons q_int (a_cons (q_tup (a_cons q_int (a_cons q_int (a_cons q_int (a_cons q_int (a_cons q_int a_nil (by rfl)) (by rfl)) (by rfl)) (by rfl)) (by rfl))) (a_cons (q_tup (a_cons q_int a_nil (by rfl))) (a_cons q_bl (a_cons q_bl (a_cons q_bl (a_cons q_int (a_cons q_int (a_cons q_int a_nil (by rfl)) (by rfl)) (by rfl)) (by rfl)) (by rfl)) (by rfl)) (by rfl)) (by rfl)) (by rfl)) (by rfl)) (by rfl)) (by rfl)))) a_nil (by rfl)) (by rfl)) (len_cons (len_cons len_nil)).len (by rfl) (by rfl)) (fun _ => rfl)))
  (ss_one (s_ret q_bl))
  ss_nil)
 (ss_cons (s_for h.cc (i_seq (q_tup (a_cons q_int (a_cons q_int (a_cons q_int (a_cons q_int a_nil (by rfl)) (by rfl)) (by rfl)) (by rfl)))) (g_name l3)
  (ss_one (s_if (t_not (t_val (q_call (Wd.callee h.wd c__law_right g__law_right (by rfl)) (h.wd.room.mono (by omega)) h.cc.tk (a_cons (q_var v1) (a_cons (q_call (Wd.callee h.wd c__law_number g__law_number (by rfl)) (h.wd.room.mono (by omega)) h.cc.tk (a_cons (q_var v1) (a_cons (q_var v3) a_nil (by rfl)) (by rfl)) (len_cons (len_cons len_nil)).len (by rfl) (by rfl)) (a_cons (q_call (Wd.callee h.wd c__law_times_of g__law_times_of (by rfl)) (h.wd.room.mono (by omega)) h.cc.tk (a_cons (q_var v1) a_nil (by rfl)) (len_cons len_nil).len (by rfl) (by rfl)) a_nil (by rfl)) (by rfl)) (by rfl)) (len_cons (len_cons (len_cons len_nil))).len (by rfl) (by rfl)) (fun _ => rfl)))
  (ss_one (s_ret q_bl))
  ss_nil)) (fun _ => rfl))
 (ss_cons (s_for h.cc (i_seq (q_tup (a_cons q_int (a_cons q_int (a_cons q_int a_nil (by rfl)) (by rfl)) (by rfl)))) (g_name l3)
  (ss_one (s_if (t_not (t_val (q_call (Wd.callee h.wd c__law_ways_right g__law_ways_right (by rfl)) (h.wd.room.mono (by omega)) h.cc.tk (a_cons (q_var v1) (a_cons (q_call (Wd.callee h.wd c__law_number g__law_number (by rfl)) (h.wd.room.mono (by omega)) h.cc.tk (a_cons (q_var v1) (a_cons (q_var v3) a_nil (by rfl)) (by rfl)) (len_cons (len_cons len_nil)).len (by rfl) (by rfl)) (a_cons (q_call (Wd.callee h.wd c__law_times_of g__law_times_of (by rfl)) (h.wd.room.mono (by omega)) h.cc.tk (a_cons (q_var v1) a_nil (by rfl)) (len_cons len_nil).len (by rfl) (by rfl)) a_nil (by rfl)) (by rfl)) (by rfl)) (len_cons (len_cons (len_cons len_nil))).len (by rfl) (by rfl)) (fun _ => rfl)))
  (ss_one (s_ret q_bl))
  ss_nil)) (fun _ => rfl))
 (ss_cons (s_if (t_not (t_val (q_call (Wd.callee h.wd c__law_primes_right g__law_primes_right (by rfl)) (h.wd.room.mono (by omega)) h.cc.tk (a_cons (q_var v1) a_nil (by rfl)) (len_cons len_nil).len (by rfl) (by rfl)) (fun _ => rfl)))
  (ss_one (s_ret q_bl))
  ss_nil)
 (ss_cons (s_set l4 (q_call (Wd.callee h.wd c__law_some g__law_some (by rfl)) (h.wd.room.mono (by omega)) h.cc.tk (a_cons (q_var v1) (a_cons (QF.qe (f_lst (a_cons q_int (a_cons q_int (a_cons q_int (a_cons q_int (a_cons q_int (a_cons q_int (a_cons q_int (a_cons q_int (a_cons q_int (a_cons q_int (a_cons q_int (a_cons q_int (a_cons q_int (a_cons q_int (a_cons q_int a_nil (by rfl)) (by rfl)) (by rfl)) (by rfl)) (by rfl)) (by rfl)) (by rfl)) (by rfl)) (by rfl)) (by rfl)) (by rfl)) (by rfl)) (by rfl)) (by rfl)) (by rfl)))) a_nil (by rfl)) (by rfl)) (len_cons (len_cons len_nil)).len (by rfl) (by rfl)) (by rfl))
 (ss_cons (s_set l5 (q_call (Wd.callee h.wd c__law_times_of g__law_times_of (by rfl)) (h.wd.room.mono (by omega)) h.cc.tk (a_cons (q_var v1) a_nil (by rfl)) (len_cons len_nil).len (by rfl) (by rfl)) (by rfl))
 (ss_cons (s_if (t_cmp opq_gt (by with_unfolding_all rfl) (QE.qr (q_call (Wd.callee h.wd c_least_terms g_least_terms (by rfl)) (h.wd.room.mono (by omega)) h.cc.tk (a_cons (q_var v4) (a_cons (q_var v5) a_nil (by rfl)) (by rfl)) (len_cons (len_cons len_nil)).len (by rfl) (by rfl))) (q_rd v5))
  (ss_one (s_ret q_bl))
  ss_nil)
 (ss_cons (s_set l6 (q_call (Wd.callee h.wd c__law_some g__law_some (by rfl)) (h.wd.room.mono (by omega)) h.cc.tk (a_cons (q_var v1) (a_cons (QF.qe (f_lst (a_cons q_int (a_cons q_int (a_cons q_int (a_cons q_int (a_cons q_int a_nil (by rfl)) (by rfl)) (by rfl)) (by rfl)) (by rfl)))) a_nil (by rfl)) (by rfl)) (len_cons (len_cons len_nil)).len (by rfl) (by rfl)) (by rfl))
 (ss_cons (s_if (t_not (t_val (q_call (Wd.callee h.wd c__law_like g__law_like (by rfl)) (h.wd.room.mono (by omega)) h.cc.tk (a_cons (QF.qe (f_lst (a_cons (q_call (Wd.callee h.wd c_least_terms g_least_terms (by rfl)) (h.wd.room.mono (by omega)) h.cc.tk (a_cons (q_op opq_add (q_rd v6) (QE.qr q_int)) (a_cons (q_var v6) a_nil (by rfl)) (by rfl)) (len_cons (len_cons len_nil)).len (by rfl) (by rfl)) (a_cons (q_call (Wd.callee h.wd c_power_rests g_power_rests (by rfl)) (h.wd.room.mono (by omega)) h.cc.tk (a_cons (q_op opq_add (q_rd v6) (QE.qr q_int)) (a_cons (q_var v6) a_nil (by rfl)) (by rfl)) (len_cons (len_cons len_nil)).len (by rfl) (by rfl)) a_nil (by rfl)) (by rfl)))) (a_cons (QF.qe (f_lst (a_cons (q_var v6) (a_cons (q_tup (a_cons q_int (a_cons q_int a_nil (by rfl)) (by rfl))) a_nil (by rfl)) (by rfl)))) a_nil (by rfl)) (by rfl)) (len_cons (len_cons len_nil)).len (by rfl) (by rfl)) (fun _ => rfl)))
  (ss_one (s_ret q_bl))
  ss_nil)
 (ss_cons (s_set l7 (q_call (Wd.callee h.wd c__law_some g__law_some (by rfl)) (h.wd.room.mono (by omega)) h.cc.tk (a_cons (q_var v1) (a_cons (QF.qe (f_lst (a_cons q_int (a_cons q_int (a_cons q_int (a_cons q_int (a_cons q_int (a_cons q_int a_nil (by rfl)) (by rfl)) (by rfl)) (by rfl)) (by rfl)) (by rfl)))) a_nil (by rfl)) (by rfl)) (len_cons (len_cons len_nil)).len (by rfl) (by rfl)) (by rfl))
 (ss_one (s_ret (q_call (Wd.callee h.wd c__law_like g__law_like (by rfl)) (h.wd.room.mono (by omega)) h.cc.tk (a_cons (QF.qe (f_lst (a_cons (q_call (Wd.callee h.wd c_least_terms g_least_terms (by rfl)) (h.wd.room.mono (by omega)) h.cc.tk (a_cons (q_op opq_add (QE.qr (q_op opq_mul (QE.qr q_int) (q_rd v7))) (QE.qr q_int)) (a_cons (q_var v7) a_nil (by rfl)) (by rfl)) (len_cons (len_cons len_nil)).len (by rfl) (by rfl)) (a_cons (q_call (Wd.callee h.wd c_power_rests g_power_rests (by rfl)) (h.wd.room.mono (by omega)) h.cc.tk (a_cons (q_op opq_add (QE.qr (q_op opq_mul (QE.qr q_int) (q_rd v7))) (QE.qr q_int)) (a_cons (q_var v7) a_nil (by rfl)) (by rfl)) (len_cons (len_cons len_nil)).len (by rfl) (by rfl)) a_nil (by rfl)) (by rfl)))) (a_cons (QF.qe (f_lst (a_cons (q_var v7) (a_cons (q_tup (a_cons q_int (a_cons q_int (a_cons (q_op opq_mul (QE.qr q_int) (q_rd v7)) a_nil (by rfl)) (by rfl)) (by rfl))) a_nil (by rfl)) (by rfl)))) a_nil (by rfl)) (by rfl)) (len_cons (len_cons len_nil)).len (by rfl) (by rfl))))))))))))))))))

theorem ok_is_integer {P : Program} {w : World} {K : PySem.W.Frag} {mg : Str → Option Value} {base : Heap} (T : Hd fa fn K mg) : CalleeK P w K mg base "is_integer" 1 1 m_is_integer :=
  T.callee 0 0 (by rfl) (by rfl) sc_is_integer rfl (fun _ _ _ _ _ _ us hl => match us, hl with | [_], _ => rfl) (fun X B W h => der_is_integer T h) (fun ds S _ _ => ⟨fuel, rfl⟩)

theorem ok_is_whole {P : Program} {w : World} {K : PySem.W.Frag} {mg : Str → Option Value} {base : Heap} (T : Hd fa fn K mg) : CalleeK P w K mg base "is_whole" 2 3 m_is_whole :=
  T.callee 1 1 (by rfl) (by rfl) sc_is_whole rfl (fun _ _ _ _ _ _ us hl => match us, hl with | [_, _, _], _ => rfl) (fun X B W h => der_is_whole T (ok_is_integer T) h) (fun ds S _ _ => ⟨fuel, rfl⟩)

theorem ok_need_whole {P : Program} {w : World} {K : PySem.W.Frag} {mg : Str → Option Value} {base : Heap} (T : Hd fa fn K mg) : CalleeK P w K mg base "need_whole" 3 3 m_need_whole :=
  T.callee 2 2 (by rfl) (by rfl) sc_need_whole rfl (fun _ _ _ _ _ _ us hl => match us, hl with | [_, _, _], _ => rfl) (fun X B W h => der_need_whole T (ok_is_whole T) h) (fun ds S _ _ => ⟨fuel, rfl⟩)

theorem ok_is_tuple_of {P : Program} {w : World} {K : PySem.W.Frag} {mg : Str → Option Value} {base : Heap} (T : Hd fa fn K mg) : CalleeK P w K mg base "is_tuple_of" 1 3 m_is_tuple_of :=
  T.callee 3 3 (by rfl) (by rfl) sc_is_tuple_of rfl (fun _ _ _ _ _ _ us hl => match us, hl with | [_, _, _], _ => rfl) (fun X B W h => der_is_tuple_of T h) (fun ds S _ _ => ⟨fuel, rfl⟩)

theorem ok_power_in {P : Program} {w : World} {K : PySem.W.Frag} {mg : Str → Option Value} {base : Heap} (T : Hd fa fn K mg) : CalleeK P w K mg base "power_in" 1 3 m_power_in :=
  T.callee 4 4 (by rfl) (by rfl) sc_power_in rfl (fun _ _ _ _ _ _ us hl => match us, hl with | [_, _, _], _ => rfl) (fun X B W h => der_power_in T h) (fun ds S _ _ => ⟨fuel, rfl⟩)

theorem ok_need_times {P : Program} {w : World} {K : PySem.W.Frag} {mg : Str → Option Value} {base : Heap} (T : Hd fa fn K mg) : CalleeK P w K mg base "need_times" 3 1 m_need_times :=
  T.callee 5 5 (by rfl) (by rfl) sc_need_times rfl (fun _ _ _ _ _ _ us hl => match us, hl with | [_], _ => rfl) (fun X B W h => der_need_times T (ok_is_whole T) h) (fun ds S _ _ => ⟨fuel, rfl⟩)

theorem ok_need_rest {P : Program} {w : World} {K : PySem.W.Frag} {mg : Str → Option Value} {base : Heap} (T : Hd fa fn K mg) : CalleeK P w K mg base "need_rest" 3 2 m_need_rest :=
  T.callee 6 6 (by rfl) (by rfl) sc_need_rest rfl (fun _ _ _ _ _ _ us hl => match us, hl with | [_, _], _ => rfl) (fun X B W h => der_need_rest T (ok_is_whole T) h) (fun ds S _ _ => ⟨fuel, rfl⟩)

theorem ok_power_rests {P : Program} {w : World} {K : PySem.W.Frag} {mg : Str → Option Value} {base : Heap} (T : Hd fa fn K mg) : CalleeK P w K mg base "power_rests" 4 2 m_power_rests :=
  T.callee 7 7 (by rfl) (by rfl) sc_power_rests rfl (fun _ _ _ _ _ _ us hl => match us, hl with | [_, _], _ => rfl) (fun X B W h => der_power_rests T (ok_need_whole T) (ok_need_times T) (ok_power_in T) h) (fun ds S _ _ => ⟨fuel, rfl⟩)

theorem ok_powers_in {P : Program} {w : World} {K : PySem.W.Frag} {mg : Str → Option Value} {base : Heap} (T : Hd fa fn K mg) : CalleeK P w K mg base "powers_in" 2 2 m_powers_in :=
  T.callee 8 8 (by rfl) (by rfl) sc_powers_in rfl (fun _ _ _ _ _ _ us hl => match us, hl with | [_, _], _ => rfl) (fun X B W h => der_powers_in T (ok_power_in T) h) (fun ds S _ _ => ⟨fuel, rfl⟩)

theorem ok_fewest_in {P : Program} {w : World} {K : PySem.W.Frag} {mg : Str → Option Value} {base : Heap} (T : Hd fa fn K mg) : CalleeK P w K mg base "fewest_in" 3 2 m_fewest_in :=
  T.callee 9 9 (by rfl) (by rfl) sc_fewest_in rfl (fun _ _ _ _ _ _ us hl => match us, hl with | [_, _], _ => rfl) (fun X B W h => der_fewest_in T (ok_powers_in T) h) (fun ds S _ _ => ⟨fuel, rfl⟩)

theorem ok_sums_of {P : Program} {w : World} {K : PySem.W.Frag} {mg : Str → Option Value} {base : Heap} (T : Hd fa fn K mg) : CalleeK P w K mg base "sums_of" 3 3 m_sums_of :=
  T.callee 10 10 (by rfl) (by rfl) sc_sums_of rfl (fun _ _ _ _ _ _ us hl => match us, hl with | [_, _, _], _ => rfl) (fun X B W h => der_sums_of T (ok_powers_in T) h) (fun ds S _ _ => ⟨fuel, rfl⟩)

theorem ok_terms_in {P : Program} {w : World} {K : PySem.W.Frag} {mg : Str → Option Value} {base : Heap} (T : Hd fa fn K mg) : CalleeK P w K mg base "terms_in" 4 3 m_terms_in :=
  T.callee 11 11 (by rfl) (by rfl) sc_terms_in rfl (fun _ _ _ _ _ _ us hl => match us, hl with | [_, _, _], _ => rfl) (fun X B W h => der_terms_in T (ok_fewest_in T) (ok_power_in T) h) (fun ds S _ _ => ⟨fuel, rfl⟩)

theorem ok_ways_of_sums {P : Program} {w : World} {K : PySem.W.Frag} {mg : Str → Option Value} {base : Heap} (T : Hd fa fn K mg) : CalleeK P w K mg base "ways_of_sums" 3 3 m_ways_of_sums :=
  T.callee 12 12 (by rfl) (by rfl) sc_ways_of_sums rfl (fun _ _ _ _ _ _ us hl => match us, hl with | [_, _, _], _ => rfl) (fun X B W h => der_ways_of_sums T (ok_powers_in T) h) (fun ds S _ _ => ⟨fuel, rfl⟩)

theorem ok_need_few {P : Program} {w : World} {K : PySem.W.Frag} {mg : Str → Option Value} {base : Heap} (T : Hd fa fn K mg) : CalleeK P w K mg base "need_few" 4 2 m_need_few :=
  T.callee 13 13 (by rfl) (by rfl) sc_need_few rfl (fun _ _ _ _ _ _ us hl => match us, hl with | [_, _], _ => rfl) (fun X B W h => der_need_few T (ok_need_whole T) (ok_need_times T) h) (fun ds S _ _ => ⟨fuel, rfl⟩)

theorem ok_least_terms {P : Program} {w : World} {K : PySem.W.Frag} {mg : Str → Option Value} {base : Heap} (T : Hd fa fn K mg) : CalleeK P w K mg base "least_terms" 5 2 m_least_terms :=
  T.callee 14 14 (by rfl) (by rfl) sc_least_terms rfl (fun _ _ _ _ _ _ us hl => match us, hl with | [_, _], _ => rfl) (fun X B W h => der_least_terms T (ok_need_few T) (ok_fewest_in T) h) (fun ds S _ _ => ⟨fuel, rfl⟩)

theorem ok_rests_of_sums {P : Program} {w : World} {K : PySem.W.Frag} {mg : Str → Option Value} {base : Heap} (T : Hd fa fn K mg) : CalleeK P w K mg base "rests_of_sums" 5 3 m_rests_of_sums :=
  T.callee 15 15 (by rfl) (by rfl) sc_rests_of_sums rfl (fun _ _ _ _ _ _ us hl => match us, hl with | [_, _, _], _ => rfl) (fun X B W h => der_rests_of_sums T (ok_need_few T) (ok_need_whole T) (ok_sums_of T) h) (fun ds S _ _ => ⟨fuel, rfl⟩)

theorem ok_power_terms {P : Program} {w : World} {K : PySem.W.Frag} {mg : Str → Option Value} {base : Heap} (T : Hd fa fn K mg) : CalleeK P w K mg base "power_terms" 5 3 m_power_terms :=
  T.callee 16 16 (by rfl) (by rfl) sc_power_terms rfl (fun _ _ _ _ _ _ us hl => match us, hl with | [_, _, _], _ => rfl) (fun X B W h => der_power_terms T (ok_need_few T) (ok_need_rest T) (ok_terms_in T) h) (fun ds S _ _ => ⟨fuel, rfl⟩)

theorem ok_are_power_terms {P : Program} {w : World} {K : PySem.W.Frag} {mg : Str → Option Value} {base : Heap} (T : Hd fa fn K mg) : CalleeK P w K mg base "are_power_terms" 5 4 m_are_power_terms :=
  T.callee 17 17 (by rfl) (by rfl) sc_are_power_terms rfl (fun _ _ _ _ _ _ us hl => match us, hl with | [_, _, _, _], _ => rfl) (fun X B W h => der_are_power_terms T (ok_need_few T) (ok_need_rest T) (ok_fewest_in T) (ok_is_tuple_of T) (ok_is_whole T) (ok_power_in T) h) (fun ds S _ _ => ⟨fuel, rfl⟩)

theorem ok_count_power_sums {P : Program} {w : World} {K : PySem.W.Frag} {mg : Str → Option Value} {base : Heap} (T : Hd fa fn K mg) : CalleeK P w K mg base "count_power_sums" 5 4 m_count_power_sums :=
  T.callee 18 18 (by rfl) (by rfl) sc_count_power_sums rfl (fun _ _ _ _ _ _ us hl => match us, hl with | [_, _, _, _], _ => rfl) (fun X B W h => der_count_power_sums T (ok_need_few T) (ok_need_whole T) (ok_need_rest T) (ok_ways_of_sums T) h) (fun ds S _ _ => ⟨fuel, rfl⟩)

theorem ok__law_cup {P : Program} {w : World} {K : PySem.W.Frag} {mg : Str → Option Value} {base : Heap} (T : Hd fa fn K mg) : CalleeK P w K mg base "_law_cup" 1 1 m__law_cup :=
  T.callee 19 19 (by rfl) (by rfl) sc__law_cup rfl (fun _ _ _ _ _ _ us hl => match us, hl with | [_], _ => rfl) (fun X B W h => der__law_cup T h) (fun ds S _ _ => ⟨fuel, rfl⟩)

theorem ok__law_roll {P : Program} {w : World} {K : PySem.W.Frag} {mg : Str → Option Value} {base : Heap} (T : Hd fa fn K mg) : CalleeK P w K mg base "_law_roll" 1 2 m__law_roll :=
  T.callee 20 20 (by rfl) (by rfl) sc__law_roll rfl (fun _ _ _ _ _ _ us hl => match us, hl with | [_, _], _ => rfl) (fun X B W h => der__law_roll T h) (fun ds S _ _ => ⟨fuel, rfl⟩)

theorem ok__law_some {P : Program} {w : World} {K : PySem.W.Frag} {mg : Str → Option Value} {base : Heap} (T : Hd fa fn K mg) : CalleeK P w K mg base "_law_some" 2 2 m__law_some :=
  T.callee 21 21 (by rfl) (by rfl) sc__law_some rfl (fun _ _ _ _ _ _ us hl => match us, hl with | [_, _], _ => rfl) (fun X B W h => der__law_some T (ok__law_roll T) h) (fun ds S _ _ => ⟨fuel, rfl⟩)

theorem ok__law_sort {P : Program} {w : World} {K : PySem.W.Frag} {mg : Str → Option Value} {base : Heap} (T : Hd fa fn K mg) : CalleeK P w K mg base "_law_sort" 1 1 m__law_sort :=
  T.callee 22 22 (by rfl) (by rfl) sc__law_sort rfl (fun _ _ _ _ _ _ us hl => match us, hl with | [_], _ => rfl) (fun X B W h => der__law_sort T h) (fun ds S _ _ => ⟨fuel, rfl⟩)

theorem okr__law_like {P : Program} {w : World} {K : PySem.W.Frag} {mg : Str → Option Value} {base : Heap} (T : Hd fa fn K mg) : ∀ k : Nat, CalleeK P w K mg base "_law_like" (1 + k) 2 (mk__law_like k)
  | 0 => T.callee0 23 23 (by rfl) (by rfl) sc__law_like rfl (fun _ _ _ _ _ _ us hl => match us, hl with | [_, _], _ => rfl)
  | k + 1 => T.callee 23 23 (by rfl) (by rfl) sc__law_like rfl (fun _ _ _ _ _ _ us hl => match us, hl with | [_, _], _ => rfl) (fun X B W h => der__law_like T (ok__law_sort T) (Nat.le_add_right _ _) (okr__law_like T k) h) (fun ds S _ _ => ⟨fuel, rfl⟩)
theorem ok__law_like {P : Program} {w : World} {K : PySem.W.Frag} {mg : Str → Option Value} {base : Heap} (T : Hd fa fn K mg) : CalleeK P w K mg base "_law_like" 9 2 m__law_like := okr__law_like T 8

theorem ok__law_is_prime {P : Program} {w : World} {K : PySem.W.Frag} {mg : Str → Option Value} {base : Heap} (T : Hd fa fn K mg) : CalleeK P w K mg base "_law_is_prime" 1 1 m__law_is_prime :=
  T.callee 24 24 (by rfl) (by rfl) sc__law_is_prime rfl (fun _ _ _ _ _ _ us hl => match us, hl with | [_], _ => rfl) (fun X B W h => der__law_is_prime T h) (fun ds S _ _ => ⟨fuel, rfl⟩)

theorem ok__law_power {P : Program} {w : World} {K : PySem.W.Frag} {mg : Str → Option Value} {base : Heap} (T : Hd fa fn K mg) : CalleeK P w K mg base "_law_power" 1 3 m__law_power :=
  T.callee 25 25 (by rfl) (by rfl) sc__law_power rfl (fun _ _ _ _ _ _ us hl => match us, hl with | [_, _, _], _ => rfl) (fun X B W h => der__law_power T h) (fun ds S _ _ => ⟨fuel, rfl⟩)

theorem ok__law_number {P : Program} {w : World} {K : PySem.W.Frag} {mg : Str → Option Value} {base : Heap} (T : Hd fa fn K mg) : CalleeK P w K mg base "_law_number" 3 2 m__law_number :=
  T.callee 26 26 (by rfl) (by rfl) sc__law_number rfl (fun _ _ _ _ _ _ us hl => match us, hl with | [_, _], _ => rfl) (fun X B W h => der__law_number T (ok__law_roll T) (ok__law_some T) h) (fun ds S _ _ => ⟨fuel, rfl⟩)

theorem ok__law_times_of {P : Program} {w : World} {K : PySem.W.Frag} {mg : Str → Option Value} {base : Heap} (T : Hd fa fn K mg) : CalleeK P w K mg base "_law_times_of" 3 1 m__law_times_of :=
  T.callee 27 27 (by rfl) (by rfl) sc__law_times_of rfl (fun _ _ _ _ _ _ us hl => match us, hl with | [_], _ => rfl) (fun X B W h => der__law_times_of T (ok__law_some T) h) (fun ds S _ _ => ⟨fuel, rfl⟩)

theorem ok__law_sums {P : Program} {w : World} {K : PySem.W.Frag} {mg : Str → Option Value} {base : Heap} (T : Hd fa fn K mg) : CalleeK P w K mg base "_law_sums" 2 2 m__law_sums :=
  T.callee 28 28 (by rfl) (by rfl) sc__law_sums rfl (fun _ _ _ _ _ _ us hl => match us, hl with | [_, _], _ => rfl) (fun X B W h => der__law_sums T (ok__law_power T) h) (fun ds S _ _ => ⟨fuel, rfl⟩)

theorem ok__law_right {P : Program} {w : World} {K : PySem.W.Frag} {mg : Str → Option Value} {base : Heap} (T : Hd fa fn K mg) : CalleeK P w K mg base "_law_right" 10 3 m__law_right :=
  T.callee 29 29 (by rfl) (by rfl) sc__law_right rfl (fun _ _ _ _ _ _ us hl => match us, hl with | [_, _, _], _ => rfl) (fun X B W h => der__law_right T (ok__law_sums T) (ok__law_roll T) (ok_rests_of_sums T) (ok_least_terms T) (ok__law_like T) (ok_power_terms T) (ok__law_sort T) (ok__law_power T) (ok_are_power_terms T) h) (fun ds S _ _ => ⟨fuel, rfl⟩)

theorem ok__law_ways_right {P : Program} {w : World} {K : PySem.W.Frag} {mg : Str → Option Value} {base : Heap} (T : Hd fa fn K mg) : CalleeK P w K mg base "_law_ways_right" 10 3 m__law_ways_right :=
  T.callee 30 30 (by rfl) (by rfl) sc__law_ways_right rfl (fun _ _ _ _ _ _ us hl => match us, hl with | [_, _, _], _ => rfl) (fun X B W h => der__law_ways_right T (ok__law_power T) (ok__law_roll T) (ok_count_power_sums T) (ok__law_like T) h) (fun ds S _ _ => ⟨fuel, rfl⟩)

theorem ok__law_primes_right {P : Program} {w : World} {K : PySem.W.Frag} {mg : Str → Option Value} {base : Heap} (T : Hd fa fn K mg) : CalleeK P w K mg base "_law_primes_right" 10 1 m__law_primes_right :=
  T.callee 31 31 (by rfl) (by rfl) sc__law_primes_right rfl (fun _ _ _ _ _ _ us hl => match us, hl with | [_], _ => rfl) (fun X B W h => der__law_primes_right T (ok__law_roll T) (ok__law_is_prime T) (ok_count_power_sums T) (ok__law_like T) h) (fun ds S _ _ => ⟨fuel, rfl⟩)

end LW

end

section
set_option autoImplicit true
namespace LW
open PySem PySem.Spec PyProof.Rows L2 DL
def loose : List PySem.Str := ([PySem.Str.ofString "PrimeError", PySem.Str.ofString "InvalidNumber", PySem.Str.ofString "InvalidRest", PySem.Str.ofString "InvalidTimes", PySem.Str.ofString "is_integer", PySem.Str.ofString "is_whole", PySem.Str.ofString "need_whole", PySem.Str.ofString "is_tuple_of", PySem.Str.ofString "power_in", PySem.Str.ofString "LISTED", PySem.Str.ofString "LEAST_TIMES", PySem.Str.ofString "MOST_TIMES", PySem.Str.ofString "need_times", PySem.Str.ofString "need_rest", PySem.Str.ofString "power_rests", PySem.Str.ofString "MOST", PySem.Str.ofString "MANY", PySem.Str.ofString "TERMS", PySem.Str.ofString "powers_in", PySem.Str.ofString "fewest_in", PySem.Str.ofString "sums_of", PySem.Str.ofString "terms_in", PySem.Str.ofString "ways_of_sums", PySem.Str.ofString "need_few", PySem.Str.ofString "least_terms", PySem.Str.ofString "rests_of_sums", PySem.Str.ofString "power_terms", PySem.Str.ofString "are_power_terms", PySem.Str.ofString "count_power_sums", PySem.Str.ofString "_law_cup", PySem.Str.ofString "_law_roll", PySem.Str.ofString "_law_some", PySem.Str.ofString "_law_sort", PySem.Str.ofString "_law_like", PySem.Str.ofString "_law_is_prime"] : List PySem.Str) ++ ([PySem.Str.ofString "_law_power", PySem.Str.ofString "_law_number", PySem.Str.ofString "_law_times_of", PySem.Str.ofString "_law_sums", PySem.Str.ofString "_law_right", PySem.Str.ofString "_law_ways_right", PySem.Str.ofString "_law_primes_right"] : List PySem.Str)
abbrev RR : PySem.W.OpenRow := PySem.W.OpenLaw.row PySem.Challenge.rw_primessure_k82_whole_sums_of_powers
abbrev hk : PySem.W.Hook := He.hookD 97 fa fn
def ob (s : PySem.W.SharedT) : He.AlD := He.obsDG 97 fa fn (HandSHeadRun.getT s)
theorem ob_eq (s : PySem.W.SharedT) : ob s = hk.obs s.abs := He.obsDG_eq (HandSHeadRun.getT_eq s)
theorem run (w : World) : HandSHeadRun.RunEq RR (PySem.W.view RR.prog [47]) hk ob 20000 loose w := by
  intro os
  kernel_rfl
end LW

end

open PySem PySem.W PySem.Calls PyProof.Rows
set_option maxRecDepth 100000 in
set_option maxHeartbeats 0 in
theorem PySem.Challenge.cw_primessure_k82_whole_sums_of_powers_holds : PySem.Challenge.rw_primessure_k82_whole_sums_of_powers.Holds := by
  w_on; o_law
  refine HandSHeadRun.head_any (r := OpenLaw.row PySem.Challenge.rw_primessure_k82_whole_sums_of_powers) (q := view (OpenLaw.row PySem.Challenge.rw_primessure_k82_whole_sums_of_powers).prog [47]) (H := LW.hk) (ob := LW.ob) (M := 20000) (loose := LW.loose) (d := HandSHeadRun.topDef (OpenLaw.row PySem.Challenge.rw_primessure_k82_whole_sums_of_powers).prog 47) (kwd := []) LW.ob_eq
    (by kernel_rfl) (fun s => by kernel_rfl) LW.run (by kernel_rfl) (by kernel_rfl) (by kernel_rfl) (by rfl) (by first | assumption | decide +kernel) (by decide +kernel) ⟨rfl, rfl, rfl, rfl, rfl, by decide +kernel⟩ ?hw ?hc
  case hw => w_witness2
  case hc =>
    refine L2.walk_ofE (l := PySem.Challenge.rw_primessure_k82_whole_sums_of_powers) (n := 63) (k := 11) (x := "script") rfl (by decide) (by kernel_rfl) ⟨rfl, by decide, by decide⟩ ?F DL.cx_no
    intro w mg fa h Y G hmg0
    obtain ⟨K, KX, c⟩ := Y
    have hmg : mg ("law" : PySem.Str) = some (.ref fa) := by
      have e : (HandSHeadRun.topDef (OpenLaw.row PySem.Challenge.rw_primessure_k82_whole_sums_of_powers).prog 47).name = ("law" : PySem.Str) := by kernel_rfl
      rw [← e]
      exact hmg0
    exact DL.law_end (P := (PySem.Challenge.rw_primessure_k82_whole_sums_of_powers).prog) (m := LW.m_law) ⟨⟨h, KX, G⟩, c⟩ KX hmg 32 32 rfl rfl LW.sc_law (fun _ _ _ _ _ _ us hl => match us, hl with | [_], _ => rfl)
      (fun base X B W hh => LW.der_law ⟨⟨h, KX, G⟩, c⟩ (LW.ok__law_cup ⟨⟨h, KX, G⟩, c⟩) (LW.ok_power_terms ⟨⟨h, KX, G⟩, c⟩) (LW.ok_rests_of_sums ⟨⟨h, KX, G⟩, c⟩) (LW.ok_least_terms ⟨⟨h, KX, G⟩, c⟩) (LW.ok_count_power_sums ⟨⟨h, KX, G⟩, c⟩) (LW.ok_are_power_terms ⟨⟨h, KX, G⟩, c⟩) (LW.ok__law_like ⟨⟨h, KX, G⟩, c⟩) (LW.ok__law_times_of ⟨⟨h, KX, G⟩, c⟩) (LW.ok__law_number ⟨⟨h, KX, G⟩, c⟩) (LW.ok__law_right ⟨⟨h, KX, G⟩, c⟩) (LW.ok__law_ways_right ⟨⟨h, KX, G⟩, c⟩) (LW.ok__law_primes_right ⟨⟨h, KX, G⟩, c⟩) (LW.ok__law_some ⟨⟨h, KX, G⟩, c⟩) (LW.ok_power_rests ⟨⟨h, KX, G⟩, c⟩) hh) (fun ds S _ _ => ⟨DL.fuel, rfl⟩) LW.law_true
