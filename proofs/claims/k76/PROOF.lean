import PyProof.Rows.All
import Wide.All
import OpenK.AllK
import Wide.FinOn
import HandS.ForMost
import HandS.ForExc
import HandS.Wide
import HandS.Flow
import HandS.IsInst
import HandS.Style
import HandS.HeadHook2
import HandS.SortInts
import HandS.Zip
import HandS.CallLocal
import HandS.Deep
import HandS.TupAny
import HandS.Strs
import HandS.HeadEnd
import HandS.Iter
import KE.KStateDown
import Lean
import PySem.Challenge.RW_primessure_k76_whole_proth_papers
import HandS.Head0
import HandS.Head1
import HandS.Head2
import HandS.HeadHook1
set_option Elab.async false
set_option linter.all false
set_option maxRecDepth 100000
set_option maxHeartbeats 0
section
set_option autoImplicit true
/-! DL: values as data; expressions and statements as functions of data. -/
namespace DL
open PySem PySem.Spec PyProof.Rows L2

/-- a value as data -/
inductive D where
  | non | bl (b : Bool) | int (i : Int) | str (s : Str)
  | tup (l : List D) | lst (l : List D) | dct (l : List (Key × D))
  | ref (x : Str) | hd (n : Nat) | scr (l : List Int) | ty (n : String)

section
variable (K : PySem.W.Frag) (Hf : Hp) (ρ : List Addr)
mutual
def Dt : D → V → Prop
  | .non, v => v = .non
  | .bl b, v => v = .bl b
  | .int i, v => v = .int i
  | .str s, v => v = .str s
  | .ref x, v => v = .ref (He.ga K x)
  | .ty n, v => v = .ty n
  | .hd n, v => ∃ a, ρ[n]? = some a ∧ v = .ref a
  | .scr l, v => ∃ a, v = .ref a ∧ SqL K Hf a (l.map V.int)
  | .tup l, v => ∃ a vs, v = .ref a ∧ SqT K Hf a vs ∧ Dts l vs
  | .lst l, v => ∃ a vs, v = .ref a ∧ Hf a = some (.lst vs) ∧ Dts l vs
  | .dct l, v => ∃ a kvs, v = .ref a ∧ Hf a = some (.dK kvs) ∧ Dks l kvs
def Dts : List D → List V → Prop
  | [], vs => vs = []
  | d :: l, vs => ∃ v r, vs = v :: r ∧ Dt d v ∧ Dts l r
def Dks : List (Key × D) → List (Key × V) → Prop
  | [], vs => vs = []
  | (k, d) :: l, vs => ∃ v r, vs = (k, v) :: r ∧ Dt d v ∧ Dks l r
end
end

/-- the frozen part grows -/
def Ext (Hf Hf' : Hp) : Prop := ∀ a o, Hf a = some o → Hf' a = some o
def Pre (ρ ρ' : List Addr) : Prop := ∀ (n : Nat) (a : Addr), ρ[n]? = some a → ρ'[n]? = some a
theorem Ext.refl (H : Hp) : Ext H H := fun _ _ h => h
theorem Ext.trans {a b c : Hp} (h : Ext a b) (g : Ext b c) : Ext a c := fun x o e => g x o (h x o e)
theorem Pre.refl (r : List Addr) : Pre r r := fun _ _ h => h
theorem Pre.trans {a b c : List Addr} (h : Pre a b) (g : Pre b c) : Pre a c := fun x o e => g x o (h x o e)
theorem Ext.sqT {K : PySem.W.Frag} {H H' : Hp} {a : Addr} {xs : List V} (e : Ext H H') (h : SqT K H a xs) : SqT K H' a xs := by
  rcases h with (h | ⟨o, h⟩) | h
  · exact .inl (.inl (e _ _ h))
  · exact .inl (.inr ⟨o, e _ _ h⟩)
  · exact .inr h
theorem Ext.sqL {K : PySem.W.Frag} {H H' : Hp} {a : Addr} {xs : List V} (e : Ext H H') (h : SqL K H a xs) : SqL K H' a xs := by
  rcases h with (h | ⟨o, h⟩) | h
  · exact .inl (.inl (e _ _ h))
  · exact .inl (.inr ⟨o, e _ _ h⟩)
  · exact .inr h
section
variable {K : PySem.W.Frag} {Hf Hf' : Hp} {ρ ρ' : List Addr}
mutual
theorem Dt.mono (e : Ext Hf Hf') (p : Pre ρ ρ') : ∀ (d : D) (v : V), Dt K Hf ρ d v → Dt K Hf' ρ' d v
  | .non, v, h => by simpa [Dt] using h
  | .bl b, v, h => by simpa [Dt] using h
  | .int i, v, h => by simpa [Dt] using h
  | .str s, v, h => by simpa [Dt] using h
  | .ref a, v, h => by simpa [Dt] using h
  | .ty a, v, h => by simpa [Dt] using h
  | .hd n, v, h => by
    simp only [Dt] at h ⊢
    obtain ⟨a, h1, h2⟩ := h
    exact ⟨a, p _ _ h1, h2⟩
  | .scr l, v, h => by
    simp only [Dt] at h ⊢
    obtain ⟨a, h1, h2⟩ := h
    exact ⟨a, h1, e.sqL h2⟩
  | .tup l, v, h => by
    simp only [Dt] at h ⊢
    obtain ⟨a, vs, h1, h2, h3⟩ := h
    exact ⟨a, vs, h1, e.sqT h2, Dts.mono e p l vs h3⟩
  | .lst l, v, h => by
    simp only [Dt] at h ⊢
    obtain ⟨a, vs, h1, h2, h3⟩ := h
    exact ⟨a, vs, h1, e _ _ h2, Dts.mono e p l vs h3⟩
  | .dct l, v, h => by
    simp only [Dt] at h ⊢
    obtain ⟨a, vs, h1, h2, h3⟩ := h
    exact ⟨a, vs, h1, e _ _ h2, Dks.mono e p l vs h3⟩
theorem Dts.mono (e : Ext Hf Hf') (p : Pre ρ ρ') : ∀ (l : List D) (vs : List V), Dts K Hf ρ l vs → Dts K Hf' ρ' l vs
  | [], vs, h => by simpa [Dts] using h
  | d :: l, vs, h => by
    simp only [Dts] at h ⊢
    obtain ⟨v, r, h1, h2, h3⟩ := h
    exact ⟨v, r, h1, Dt.mono e p d v h2, Dts.mono e p l r h3⟩
theorem Dks.mono (e : Ext Hf Hf') (p : Pre ρ ρ') : ∀ (l : List (Key × D)) (vs : List (Key × V)), Dks K Hf ρ l vs → Dks K Hf' ρ' l vs
  | [], vs, h => by simpa [Dks] using h
  | (k, d) :: l, vs, h => by
    simp only [Dks] at h ⊢
    obtain ⟨v, r, h1, h2, h3⟩ := h
    exact ⟨v, r, h1, Dt.mono e p d v h2, Dks.mono e p l r h3⟩
end
end
end DL

end

section
set_option autoImplicit false
set_option autoImplicit false
namespace DL
open PySem PySem.Spec PyProof.Rows L2

/-- a mutable thing that several hold: a list, an instance of a class -/
inductive Cell where
  | lst (l : List D)
  | ins (C : Str) (fs : List (Str × D))
abbrev Store := List Cell

section
variable (K : PySem.W.Frag) (Hf : Hp) (ρ : List Addr)
def Dfs : List (Str × D) → List (Str × V) → Prop
  | [], vs => vs = []
  | (k, d) :: l, vs => ∃ v r, vs = (k, v) :: r ∧ Dt K Hf ρ d v ∧ Dfs l r
def CellOk (H : Hp) (a : Addr) : Cell → Prop
  | .lst l => ∃ vs, H a = some (.lst vs) ∧ Dts K Hf ρ l vs
  | .ins C fs => ∃ dx gs, H a = some (.ins (He.ga K C) dx gs) ∧ Dfs K Hf ρ fs gs
end
section
variable {K : PySem.W.Frag} {Hf Hf' : Hp} {ρ ρ' : List Addr}
theorem Dfs.mono (e : Ext Hf Hf') (p : Pre ρ ρ') : ∀ (l : List (Str × D)) (vs : List (Str × V)), Dfs K Hf ρ l vs → Dfs K Hf' ρ' l vs
  | [], vs, h => by simpa [Dfs] using h
  | (k, d) :: l, vs, h => by
    simp only [Dfs] at h ⊢
    obtain ⟨v, r, h1, h2, h3⟩ := h
    exact ⟨v, r, h1, Dt.mono e p d v h2, Dfs.mono e p l r h3⟩
end

/-- the heap bears the frozen part and the store -/
structure HR (K : PySem.W.Frag) (H Hf : Hp) (ρ : List Addr) (S : Store) : Prop where
  sub : Ext Hf H
  len : ρ.length = S.length
  nd : ∀ (i j : Nat) (a : Addr), ρ[i]? = some a → ρ[j]? = some a → i = j
  hd : ∀ (n : Nat) (a : Addr), ρ[n]? = some a → Hf a = none
  cell : ∀ (n : Nat) (a : Addr) (c : Cell), ρ[n]? = some a → S[n]? = some c → CellOk K Hf ρ H a c

/-- what a piece of a run may change: the store's cells, and new things -/
structure Tr (H Hf : Hp) (ρ : List Addr) (H' Hf' : Hp) (ρ' : List Addr) : Prop where
  hf : Ext Hf Hf'
  pre : Pre ρ ρ'
  keep : ∀ a o, H a = some o → a ∉ ρ → H' a = some o
  fresh : ∀ a, Hf' a ≠ none → Hf a ≠ none ∨ H a = none
  newh : ∀ a ∈ ρ', a ∈ ρ ∨ H a = none
  alive : ∀ a, H a ≠ none → H' a ≠ none
theorem mem_of_get {ρ : List Addr} {n : Nat} {a : Addr} (h : ρ[n]? = some a) : a ∈ ρ := List.mem_of_getElem? h
theorem Pre.mem {ρ ρ' : List Addr} (p : Pre ρ ρ') {a : Addr} (h : a ∈ ρ) : a ∈ ρ' := by
  obtain ⟨n, e⟩ := List.mem_iff_getElem?.mp h
  exact mem_of_get (p n a e)
theorem Tr.refl (H Hf : Hp) (ρ : List Addr) : Tr H Hf ρ H Hf ρ :=
  ⟨Ext.refl _, Pre.refl _, fun _ _ h _ => h, fun _ h => .inl h, fun _ h => .inl h, fun _ h => h⟩
theorem Tr.trans {H Hf H1 Hf1 H2 Hf2 : Hp} {ρ ρ1 ρ2 : List Addr} (a : Tr H Hf ρ H1 Hf1 ρ1) (b : Tr H1 Hf1 ρ1 H2 Hf2 ρ2) : Tr H Hf ρ H2 Hf2 ρ2 where
  hf := a.hf.trans b.hf
  pre := a.pre.trans b.pre
  keep := fun x o h n => b.keep x o (a.keep x o h n) fun z => by
    rcases a.newh x z with z | z
    · exact n z
    · rw [h] at z; cases z
  fresh := fun x h => by
    rcases b.fresh x h with z | z
    · exact a.fresh x z
    · refine .inr ?_
      cases e : H x with
      | none => rfl
      | some o => exact absurd z (a.alive x (by rw [e]; simp))
  newh := fun x h => by
    rcases b.newh x h with z | z
    · exact a.newh x z
    · refine .inr ?_
      cases e : H x with
      | none => rfl
      | some o => exact absurd z (a.alive x (by rw [e]; simp))
  alive := fun x h => b.alive x (a.alive x h)
/-- a new thing, frozen at once -/
theorem Tr.new {H Hf : Hp} {ρ : List Addr} {p : Addr} {o : HO} (hp : H p = none) (hs : Ext Hf H) : Tr H Hf ρ (upd H p o) (upd Hf p o) ρ where
  hf := fun a u h => by
    have : a ≠ p := fun z => by subst z; rw [hs _ _ h] at hp; cases hp
    rw [upd_ne this]; exact h
  pre := Pre.refl _
  keep := fun a u h _ => by rw [upd_ne (ne_of_none h hp)]; exact h
  fresh := fun a h => by
    by_cases z : a = p
    · subst z; exact .inr hp
    · rw [upd_ne z] at h; exact .inl h
  newh := fun a h => .inl h
  alive := fun a h => by
    by_cases z : a = p
    · subst z; rw [upd_same]; simp
    · rw [upd_ne z]; exact h
/-- a new thing, one's own -/
theorem Tr.own {H Hf : Hp} {ρ : List Addr} {p : Addr} {o : HO} (hp : H p = none) : Tr H Hf ρ (upd H p o) Hf ρ where
  hf := Ext.refl _
  pre := Pre.refl _
  keep := fun a u h _ => by rw [upd_ne (ne_of_none h hp)]; exact h
  fresh := fun a h => .inl h
  newh := fun a h => .inl h
  alive := fun a h => by
    by_cases z : a = p
    · subst z; rw [upd_same]; simp
    · rw [upd_ne z]; exact h
theorem HR.new {K : PySem.W.Frag} {H Hf : Hp} {ρ : List Addr} {S : Store} {p : Addr} {o : HO} (h : HR K H Hf ρ S) (hp : H p = none) (hr : p ∉ ρ) : HR K (upd H p o) (upd Hf p o) ρ S := by
  have t := Tr.new (ρ := ρ) (o := o) hp h.sub
  refine ⟨fun a u e => ?_, h.len, h.nd, fun n a e => ?_, fun n a c e1 e2 => ?_⟩
  · by_cases z : a = p
    · subst z; rw [upd_same] at e ⊢; exact e
    · rw [upd_ne z] at e ⊢; exact h.sub a u e
  · have : a ≠ p := fun z => hr (z ▸ mem_of_get e)
    rw [upd_ne this]; exact h.hd n a e
  · have q := h.cell n a c e1 e2
    have : a ≠ p := fun z => hr (z ▸ mem_of_get e1)
    cases c with
    | lst l =>
      obtain ⟨vs, x, y⟩ := q
      exact ⟨vs, by rw [upd_ne this]; exact x, y.mono t.hf (Pre.refl _)⟩
    | ins C fs =>
      obtain ⟨dx, gs, x, y⟩ := q
      exact ⟨dx, gs, by rw [upd_ne this]; exact x, Dfs.mono t.hf (Pre.refl _) _ _ y⟩
theorem HR.own {K : PySem.W.Frag} {H Hf : Hp} {ρ : List Addr} {S : Store} {p : Addr} {o : HO} (h : HR K H Hf ρ S) (hf : Hf p = none) (hr : p ∉ ρ) : HR K (upd H p o) Hf ρ S := by
  refine ⟨fun a u e => ?_, h.len, h.nd, h.hd, fun n a c e1 e2 => ?_⟩
  · by_cases z : a = p
    · subst z; rw [hf] at e; cases e
    · rw [upd_ne z]; exact h.sub a u e
  · have q := h.cell n a c e1 e2
    have : a ≠ p := fun z => hr (z ▸ mem_of_get e1)
    cases c with
    | lst l =>
      obtain ⟨vs, x, y⟩ := q
      exact ⟨vs, by rw [upd_ne this]; exact x, y⟩
    | ins C fs =>
      obtain ⟨dx, gs, x, y⟩ := q
      exact ⟨dx, gs, by rw [upd_ne this]; exact x, y⟩
/-- what is one's own is frozen -/
theorem HR.freeze {K : PySem.W.Frag} {H Hf : Hp} {ρ : List Addr} {S : Store} {p : Addr} {o : HO} (h : HR K H Hf ρ S) (hf : Hf p = none) (hp : H p = some o) (hr : p ∉ ρ) : HR K H (upd Hf p o) ρ S := by
  have ex : Ext Hf (upd Hf p o) := fun a u e => by
    have : a ≠ p := fun z => by subst z; rw [hf] at e; cases e
    rw [upd_ne this]; exact e
  refine ⟨fun a u e => ?_, h.len, h.nd, fun n a e => ?_, fun n a c e1 e2 => ?_⟩
  · by_cases z : a = p
    · subst z; rw [upd_same] at e; cases e; exact hp
    · rw [upd_ne z] at e; exact h.sub a u e
  · have : a ≠ p := fun z => hr (z ▸ mem_of_get e)
    rw [upd_ne this]; exact h.hd n a e
  · have q := h.cell n a c e1 e2
    cases c with
    | lst l =>
      obtain ⟨vs, x, y⟩ := q
      exact ⟨vs, x, y.mono ex (Pre.refl _)⟩
    | ins C fs =>
      obtain ⟨dx, gs, x, y⟩ := q
      exact ⟨dx, gs, x, Dfs.mono ex (Pre.refl _) _ _ y⟩
theorem HR.there {K : PySem.W.Frag} {H Hf : Hp} {ρ : List Addr} {S : Store} (h : HR K H Hf ρ S) {a : Addr} (ha : a ∈ ρ) : H a ≠ none := by
  obtain ⟨n, e⟩ := List.mem_iff_getElem?.mp ha
  have hn : n < S.length := by rw [← h.len]; exact (List.getElem?_eq_some_iff.mp e).1
  have q := h.cell n a S[n] e (List.getElem?_eq_getElem hn)
  cases hc : S[n] with
  | lst l => rw [hc] at q; obtain ⟨vs, x, _⟩ := q; rw [x]; simp
  | ins C fs => rw [hc] at q; obtain ⟨dx, gs, x, _⟩ := q; rw [x]; simp
theorem HR.notin {K : PySem.W.Frag} {H Hf : Hp} {ρ : List Addr} {S : Store} (h : HR K H Hf ρ S) {a : Addr} (ha : H a = none) : a ∉ ρ := fun z => h.there z ha
theorem HR.hnone {K : PySem.W.Frag} {H Hf : Hp} {ρ : List Addr} {S : Store} (h : HR K H Hf ρ S) {a : Addr} (ha : H a = none) : Hf a = none := by
  cases e : Hf a with
  | none => rfl
  | some o => rw [h.sub _ _ e] at ha; cases ha

/-! ### results -/
/-- an error: the class, and what its one attribute holds -/
structure Exc where
  cls : Str
  att : Option (Str × D)
inductive Res (α : Type) where
  | ok (a : α) (S : Store)
  | exc (x : Exc) (S : Store)
  | stk
def Res.bind {α β : Type} (r : Res α) (k : α → Store → Res β) : Res β := match r with
  | .ok a S => k a S
  | .exc x S => .exc x S
  | .stk => .stk

/-- a name's value: shared, or one's own -/
inductive Sl where
  | fz (d : D)
  | own (d : D)
abbrev Env := List (Option Sl)
inductive SRes where
  | nx (E : Env) (S : Store)
  | rt (d : D) (S : Store)
  | bk (E : Env) (S : Store)
  | ct (E : Env) (S : Store)
  | ex (x : Exc) (E : Env) (S : Store)
  | stk
abbrev FE := Nat → Env → Store → Res D
abbrev FT := Nat → Env → Store → Res Bool
abbrev FA := Nat → Env → Store → Res (List D)
abbrev FS := Nat → Env → Store → SRes
/-- what a def makes of its arguments -/
abbrev MF := List D → Store → Res D

section
variable (K : PySem.W.Frag)
/-- how an error lies in the heap -/
def ExcAt (Hf : Hp) (ρ : List Addr) (H : Hp) (x : Exc) (c : Value) (d : Option Addr) : Prop :=
  c = .ref (He.ga K x.cls) ∧ match x.att with
    | none => True
    | some (n, v) => ∃ (a : Addr) (u : V), d = some a ∧ Hf a = some (.xd [(n, u)]) ∧ Dt K Hf ρ v u
/-- one's own thing at a -/
def OwnAt (H Hf : Hp) (ρ : List Addr) (a : Addr) : D → Prop
  | .lst l => ∃ vs, H a = some (.lst vs) ∧ Dts K Hf ρ l vs
  | .dct l => ∃ vs, H a = some (.dK vs) ∧ Dks K Hf ρ l vs
  | _ => False
def SlOk (H0 : Hp) (H Hf : Hp) (ρ : List Addr) (v : Option (Option V)) : Sl → Prop
  | .fz d => ∃ u, v = some (some u) ∧ Dt K Hf ρ d u
  | .own d => ∃ a, v = some (some (.ref a)) ∧ H0 a = none ∧ Hf a = none ∧ a ∉ ρ ∧ OwnAt K H Hf ρ a d
end
/-- the ground of a def's run: its context, the heap at its entry, what is wanted of an error -/
structure Gr where
  H0 : Hp
  Hf0 : Hp
  ρ0 : List Addr
structure Rel (K : PySem.W.Frag) (B : Gr) (E : Env) (S : Store) (σ : L2.St) (H Hf : Hp) (ρ : List Addr) : Prop where
  hr : HR K H Hf ρ S
  tr : Tr B.H0 B.Hf0 B.ρ0 H Hf ρ
  len : E.length = σ.length
  sl : ∀ (i : Nat) (s : Sl), E[i]? = some (some s) → SlOk K B.H0 H Hf ρ σ[i]? s
  dis : ∀ (i j : Nat) (a : Addr) (d e : D), E[i]? = some (some (.own d)) → E[j]? = some (some (.own e)) → σ[i]? = some (some (.ref a)) → σ[j]? = some (some (.ref a)) → i = j
theorem OwnAt.mono {K : PySem.W.Frag} {H Hf H' Hf' : Hp} {ρ ρ' : List Addr} {a : Addr} {d : D} (x : OwnAt K H Hf ρ a d) (hn : a ∉ ρ) (t : Tr H Hf ρ H' Hf' ρ') : OwnAt K H' Hf' ρ' a d := by
  cases d with
  | lst l =>
    obtain ⟨vs, h1, h2⟩ := x
    exact ⟨vs, t.keep _ _ h1 hn, Dts.mono t.hf t.pre _ _ h2⟩
  | dct l =>
    obtain ⟨vs, h1, h2⟩ := x
    exact ⟨vs, t.keep _ _ h1 hn, Dks.mono t.hf t.pre _ _ h2⟩
  | _ => exact x.elim
theorem OwnAt.there {K : PySem.W.Frag} {H Hf : Hp} {ρ : List Addr} {a : Addr} {d : D} (x : OwnAt K H Hf ρ a d) : ∃ o, H a = some o := by
  cases d with
  | lst l => obtain ⟨vs, h1, h2⟩ := x; exact ⟨_, h1⟩
  | dct l => obtain ⟨vs, h1, h2⟩ := x; exact ⟨_, h1⟩
  | _ => exact x.elim
theorem SlOk.step {K : PySem.W.Frag} {H0 H Hf H' Hf' : Hp} {ρ ρ' : List Addr} {v : Option (Option V)} {s : Sl} (x : SlOk K H0 H Hf ρ v s) (t : Tr H Hf ρ H' Hf' ρ') : SlOk K H0 H' Hf' ρ' v s := by
  cases s with
  | fz d =>
    obtain ⟨u, h1, h2⟩ := x
    exact ⟨u, h1, h2.mono t.hf t.pre⟩
  | own d =>
    obtain ⟨a, h1, h2, h3, h4, h5⟩ := x
    obtain ⟨o, ho⟩ := h5.there
    refine ⟨a, h1, h2, ?_, fun z => ?_, h5.mono h4 t⟩
    · cases e : Hf' a with
      | none => rfl
      | some u =>
        rcases t.fresh a (by rw [e]; simp) with z | z
        · exact absurd h3 z
        · rw [ho] at z; cases z
    · rcases t.newh a z with z | z
      · exact h4 z
      · rw [ho] at z; cases z
theorem Rel.step {K : PySem.W.Frag} {B : Gr} {E : Env} {S S' : Store} {σ : L2.St} {H Hf H' Hf' : Hp} {ρ ρ' : List Addr} (x : Rel K B E S σ H Hf ρ) (h : HR K H' Hf' ρ' S') (t : Tr H Hf ρ H' Hf' ρ') : Rel K B E S' σ H' Hf' ρ' :=
  ⟨h, x.tr.trans t, x.len, fun i s e => (x.sl i s e).step t, x.dis⟩
end DL

end

section
set_option autoImplicit false
set_option autoImplicit false
namespace DL
open PySem PySem.Spec PyProof.Rows L2

/-! ### what is wanted behind -/
section
variable (K : PySem.W.Frag) (W : WX)
def PostX (σ : L2.St) (H Hf : Hp) (ρ : List Addr) (x : Exc) (S' : Store) : Prop :=
  ∀ c od H' Hf' ρ', HR K H' Hf' ρ' S' → Tr H Hf ρ H' Hf' ρ' → ExcAt K Hf' ρ' H' x c od → W c od σ H'
/-- a value, shared -/
def PostE (σ : L2.St) (H Hf : Hp) (ρ : List Addr) (Q : VK) : Res D → Prop
  | .ok d S' => ∀ v H' Hf' ρ', HR K H' Hf' ρ' S' → Tr H Hf ρ H' Hf' ρ' → Dt K Hf' ρ' d v → Q v H'
  | .exc x S' => PostX K W σ H Hf ρ x S'
  | .stk => False
/-- a value that is read at once: it may be one's own -/
def Dw (H Hf : Hp) (ρ : List Addr) : D → V → Prop
  | .lst l, v => ∃ a vs, v = .ref a ∧ a ∉ ρ ∧ H a = some (.lst vs) ∧ Dts K Hf ρ l vs
  | .dct l, v => ∃ a vs, v = .ref a ∧ a ∉ ρ ∧ H a = some (.dK vs) ∧ Dks K Hf ρ l vs
  | d, v => Dt K Hf ρ d v
def Dws (H Hf : Hp) (ρ : List Addr) : List D → List V → Prop
  | [], vs => vs = []
  | d :: l, vs => ∃ v r, vs = v :: r ∧ Dw K H Hf ρ d v ∧ Dws H Hf ρ l r
def PostR (σ : L2.St) (H Hf : Hp) (ρ : List Addr) (Q : VK) : Res D → Prop
  | .ok d S' => ∀ v H' Hf' ρ', HR K H' Hf' ρ' S' → Tr H Hf ρ H' Hf' ρ' → Dw K H' Hf' ρ' d v → Q v H'
  | .exc x S' => PostX K W σ H Hf ρ x S'
  | .stk => False
/-- a new list or dict, one's own -/
def PostF (σ : L2.St) (H Hf : Hp) (ρ : List Addr) (Q : VK) : Res D → Prop
  | .ok d S' => ∀ p H' Hf' ρ', HR K H' Hf' ρ' S' → Tr H Hf ρ H' Hf' ρ' → H p = none → Hf' p = none → p ∉ ρ' → OwnAt K H' Hf' ρ' p d → Q (.ref p) H'
  | .exc x S' => PostX K W σ H Hf ρ x S'
  | .stk => False
def PostA (σ : L2.St) (H Hf : Hp) (ρ : List Addr) (Q : List V → Hp → Prop) : Res (List D) → Prop
  | .ok d S' => ∀ v H' Hf' ρ', HR K H' Hf' ρ' S' → Tr H Hf ρ H' Hf' ρ' → Dts K Hf' ρ' d v → Q v H'
  | .exc x S' => PostX K W σ H Hf ρ x S'
  | .stk => False
def PostAr (σ : L2.St) (H Hf : Hp) (ρ : List Addr) (Q : List V → Hp → Prop) : Res (List D) → Prop
  | .ok d S' => ∀ v H' Hf' ρ', HR K H' Hf' ρ' S' → Tr H Hf ρ H' Hf' ρ' → Dws K H' Hf' ρ' d v → Q v H'
  | .exc x S' => PostX K W σ H Hf ρ x S'
  | .stk => False
def PostT (σ : L2.St) (H Hf : Hp) (ρ : List Addr) (Q : Bool → Hp → Prop) : Res Bool → Prop
  | .ok b S' => ∀ H' Hf' ρ', HR K H' Hf' ρ' S' → Tr H Hf ρ H' Hf' ρ' → Q b H'
  | .exc x S' => PostX K W σ H Hf ρ x S'
  | .stk => False
def PostS (B : Gr) (Hf : Hp) (ρ : List Addr) (Q : Ends) : SRes → Prop
  | .nx E' S' => ∀ σ' H' Hf' ρ', Rel K B E' S' σ' H' Hf' ρ' → Ext Hf Hf' → Pre ρ ρ' → Q.nx σ' H'
  | .bk E' S' => ∀ σ' H' Hf' ρ', Rel K B E' S' σ' H' Hf' ρ' → Ext Hf Hf' → Pre ρ ρ' → Q.bk σ' H'
  | .ct E' S' => ∀ σ' H' Hf' ρ', Rel K B E' S' σ' H' Hf' ρ' → Ext Hf Hf' → Pre ρ ρ' → Q.ct σ' H'
  | .rt d S' => ∀ v H' Hf' ρ', HR K H' Hf' ρ' S' → Tr B.H0 B.Hf0 B.ρ0 H' Hf' ρ' → Dt K Hf' ρ' d v → Q.rt v H'
  | .ex x E' S' => ∀ c od σ' H' Hf' ρ', Rel K B E' S' σ' H' Hf' ρ' → Ext Hf Hf' → Pre ρ ρ' → ExcAt K Hf' ρ' H' x c od → W c od σ' H'
  | .stk => False
end
section
variable (X : Cx) (B : Gr) (W : WX)
def QE (e : Expr) (f : FE) : Prop := ∃ t, PE X e t ∧ ∀ n E S σ H Hf ρ Q, Rel X.K B E S σ H Hf ρ → PostE X.K W σ H Hf ρ Q (f n E S) → t σ H Q
def QR (e : Expr) (f : FE) : Prop := ∃ t, PE X e t ∧ ∀ n E S σ H Hf ρ Q, Rel X.K B E S σ H Hf ρ → PostR X.K W σ H Hf ρ Q (f n E S) → t σ H Q
def QF (e : Expr) (f : FE) : Prop := ∃ t, PE X e t ∧ ∀ n E S σ H Hf ρ Q, Rel X.K B E S σ H Hf ρ → PostF X.K W σ H Hf ρ Q (f n E S) → t σ H Q
def QA (es : List Expr) (f : FA) : Prop := ∃ t, PA X es t ∧ ∀ n E S σ H Hf ρ Q, Rel X.K B E S σ H Hf ρ → PostA X.K W σ H Hf ρ Q (f n E S) → t σ H Q
def QAr (es : List Expr) (f : FA) : Prop := ∃ t, PA X es t ∧ ∀ n E S σ H Hf ρ Q, Rel X.K B E S σ H Hf ρ → PostAr X.K W σ H Hf ρ Q (f n E S) → t σ H Q
def QT (e : Expr) (f : FT) : Prop := ∃ t, PT X e t ∧ ∀ n E S σ H Hf ρ Q, Rel X.K B E S σ H Hf ρ → PostT X.K W σ H Hf ρ Q (f n E S) → t σ H Q
def QW (e : Expr) (f : FT) : Prop := ∃ t, PW X e t ∧ ∀ n E S σ H Hf ρ Q, Rel X.K B E S σ H Hf ρ → PostT X.K W σ H Hf ρ Q (f n E S) → t σ H Q
def QS (st : Stmt) (f : FS) : Prop := ∃ t, PS X st t ∧ ∀ n E S σ H Hf ρ Q, Rel X.K B E S σ H Hf ρ → PostS X.K W B Hf ρ Q (f n E S) → t Q σ H
def QSs (st : List Stmt) (f : FS) : Prop := ∃ t, PSs X st t ∧ ∀ n E S σ H Hf ρ Q, Rel X.K B E S σ H Hf ρ → PostS X.K W B Hf ρ Q (f n E S) → t Q σ H
end

theorem PostS.mono {K : PySem.W.Frag} {W : WX} {B : Gr} {Hf Hf1 : Hp} {ρ ρ1 : List Addr} {Q : Ends} {r : SRes} (ex : Ext Hf Hf1) (pr : Pre ρ ρ1) (p : PostS K W B Hf ρ Q r) : PostS K W B Hf1 ρ1 Q r := by
  cases r with
  | nx E S => exact fun σ' H' Hf' ρ' r a b => p σ' H' Hf' ρ' r (ex.trans a) (pr.trans b)
  | bk E S => exact fun σ' H' Hf' ρ' r a b => p σ' H' Hf' ρ' r (ex.trans a) (pr.trans b)
  | ct E S => exact fun σ' H' Hf' ρ' r a b => p σ' H' Hf' ρ' r (ex.trans a) (pr.trans b)
  | rt d S => exact p
  | ex x E S => exact fun c od σ' H' Hf' ρ' r a b => p c od σ' H' Hf' ρ' r (ex.trans a) (pr.trans b)
  | stk => exact p

/-! ### small lemmas -/
section
variable {K : PySem.W.Frag} {W : WX} {B : Gr} {E : Env} {S S' : Store} {σ : L2.St} {H Hf H' Hf' : Hp} {ρ ρ' : List Addr} {Q : VK}
theorem Dt.dw (h : HR K H Hf ρ S) {d : D} {v : V} (x : Dt K Hf ρ d v) : Dw K H Hf ρ d v := by
  cases d with
  | lst l =>
    simp only [Dt] at x
    obtain ⟨a, vs, h1, h2, h3⟩ := x
    refine ⟨a, vs, h1, fun z => ?_, h.sub _ _ h2, h3⟩
    obtain ⟨n, e⟩ := List.mem_iff_getElem?.mp z
    rw [h.hd n a e] at h2; cases h2
  | dct l =>
    simp only [Dt] at x
    obtain ⟨a, vs, h1, h2, h3⟩ := x
    refine ⟨a, vs, h1, fun z => ?_, h.sub _ _ h2, h3⟩
    obtain ⟨n, e⟩ := List.mem_iff_getElem?.mp z
    rw [h.hd n a e] at h2; cases h2
  | _ => exact x
theorem Dw.mono (t : Tr H Hf ρ H' Hf' ρ') {d : D} {v : V} (hn : HR K H Hf ρ S) (x : Dw K H Hf ρ d v) : Dw K H' Hf' ρ' d v := by
  have nr : ∀ a o, a ∉ ρ → H a = some o → a ∉ ρ' := fun a o h1 h2 z => by
    rcases t.newh a z with z | z
    · exact h1 z
    · rw [h2] at z; cases z
  cases d with
  | lst l =>
    obtain ⟨a, vs, h1, h2, h3, h4⟩ := x
    exact ⟨a, vs, h1, nr a _ h2 h3, t.keep _ _ h3 h2, Dts.mono t.hf t.pre _ _ h4⟩
  | dct l =>
    obtain ⟨a, vs, h1, h2, h3, h4⟩ := x
    exact ⟨a, vs, h1, nr a _ h2 h3, t.keep _ _ h3 h2, Dks.mono t.hf t.pre _ _ h4⟩
  | non => exact Dt.mono (K := K) t.hf t.pre _ _ x
  | bl b => exact Dt.mono (K := K) t.hf t.pre _ _ x
  | int i => exact Dt.mono (K := K) t.hf t.pre _ _ x
  | str s => exact Dt.mono (K := K) t.hf t.pre _ _ x
  | tup l => exact Dt.mono (K := K) t.hf t.pre _ _ x
  | ref a => exact Dt.mono (K := K) t.hf t.pre _ _ x
  | hd n => exact Dt.mono (K := K) t.hf t.pre _ _ x
  | scr l => exact Dt.mono (K := K) t.hf t.pre _ _ x
  | ty l => exact Dt.mono (K := K) t.hf t.pre _ _ x
theorem PostX.tr (t : Tr H Hf ρ H' Hf' ρ') {x : Exc} {S1 : Store} (h : PostX K W σ H Hf ρ x S1) : PostX K W σ H' Hf' ρ' x S1 :=
  fun c od H2 Hf2 ρ2 a b e => h c od H2 Hf2 ρ2 a (t.trans b) e
/-- what is one's own is shared from now on -/
theorem own_share {p : Addr} {d : D} (h : HR K H' Hf' ρ' S') (t : Tr H Hf ρ H' Hf' ρ') (h1 : H p = none) (h2 : Hf' p = none) (h3 : p ∉ ρ') (o : OwnAt K H' Hf' ρ' p d) :
    ∃ Hf2, HR K H' Hf2 ρ' S' ∧ Tr H Hf ρ H' Hf2 ρ' ∧ Dt K Hf2 ρ' d (.ref p) := by
  obtain ⟨u, hu⟩ := o.there
  have hr := h.freeze h2 hu h3
  have ex : Ext Hf' (upd Hf' p u) := fun a z e => by
    have : a ≠ p := fun q => by subst q; rw [h2] at e; cases e
    rw [upd_ne this]; exact e
  refine ⟨upd Hf' p u, hr, ⟨t.hf.trans ex, t.pre, t.keep, fun a z => ?_, t.newh, t.alive⟩, ?_⟩
  · by_cases e : a = p
    · subst e; exact .inr h1
    · rw [upd_ne e] at z; exact t.fresh a z
  · cases d with
    | lst l =>
      obtain ⟨vs, h5, h6⟩ := o
      rw [h5] at hu; cases hu
      exact ⟨p, vs, rfl, upd_same, Dts.mono ex (Pre.refl _) _ _ h6⟩
    | dct l =>
      obtain ⟨vs, h5, h6⟩ := o
      rw [h5] at hu; cases hu
      exact ⟨p, vs, rfl, upd_same, Dks.mono ex (Pre.refl _) _ _ h6⟩
    | _ => exact o.elim
theorem PostE.ofF {r : Res D} (h : PostE K W σ H Hf ρ Q r) : PostF K W σ H Hf ρ Q r := by
  cases r with
  | ok d S1 =>
    intro p H1 Hf1 ρ1 a b c e f o
    obtain ⟨Hf2, a2, b2, d2⟩ := own_share a b c e f o
    exact h _ _ _ _ a2 b2 d2
  | exc x S1 => exact h
  | stk => exact h
theorem PostR.ofE {r : Res D} (h : PostR K W σ H Hf ρ Q r) : PostE K W σ H Hf ρ Q r := by
  cases r with
  | ok d S1 => exact fun v H1 Hf1 ρ1 a b c => h v H1 Hf1 ρ1 a b (c.dw a)
  | exc x S1 => exact h
  | stk => exact h
end
section
variable {X : Cx} {B : Gr} {W : WX} {e : Expr} {f : FE}
theorem QF.qe (h : QF X B W e f) : QE X B W e f := by
  obtain ⟨t, h1, h2⟩ := h
  exact ⟨t, h1, fun n E S σ H Hf ρ Q r p => h2 n E S σ H Hf ρ Q r p.ofF⟩
theorem QE.qr (h : QE X B W e f) : QR X B W e f := by
  obtain ⟨t, h1, h2⟩ := h
  exact ⟨t, h1, fun n E S σ H Hf ρ Q r p => h2 n E S σ H Hf ρ Q r p.ofE⟩
end
end DL

end

section
set_option autoImplicit false
set_option autoImplicit false
namespace DL
open PySem PySem.Spec PyProof.Rows L2

/-! ### names and constants -/
/-- the name x stands in slot i -/
structure Vr (X : Cx) (i : Nat) (x : Str) : Prop where
  ix : X.N[i]? = some x
  vis : Vis X.env.scope x
  db : (x == ("__debug__" : Str)) = false
  cd : (x == ("__classdict__" : Str)) = false
/-- .. and may be stored -/
structure Lr (X : Cx) (i : Nat) (x : Str) : Prop where
  nd : X.N.Nodup
  ix : X.N[i]? = some x
  loc : Loc X.env.scope x
  fn : X.fn x = true ∨ X.env.scope.names.lookup x = some .local

def fC (d : D) : FE := fun _ _ S => .ok d S
def fVar (i : Nat) : FE := fun _ E S => match E[i]? with
  | some (some (.fz d)) => .ok d S
  | _ => .stk
def fRd (i : Nat) : FE := fun _ E S => match E[i]? with
  | some (some (.fz d)) => .ok d S
  | some (some (.own d)) => .ok d S
  | _ => .stk
section
variable {X : Cx} {B : Gr} {W : WX} {pos : Pos} {x : Str} {i : Nat}
theorem q_int {z : Int} {j : Nat} : QE X B W (.Constant (.int z) j pos) (fC (.int z)) :=
  ⟨_, pe_int, fun n E S σ H Hf ρ Q r p => p _ _ _ _ r.hr (Tr.refl _ _ _) rfl⟩
theorem q_bl {z : Bool} {j : Nat} : QE X B W (.Constant (.bool z) j pos) (fC (.bl z)) :=
  ⟨_, pe_bl, fun n E S σ H Hf ρ Q r p => p _ _ _ _ r.hr (Tr.refl _ _ _) rfl⟩
theorem q_non {j : Nat} : QE X B W (.Constant .none j pos) (fC .non) :=
  ⟨_, pe_non, fun n E S σ H Hf ρ Q r p => p _ _ _ _ r.hr (Tr.refl _ _ _) rfl⟩
theorem q_str {z : Str} {j : Nat} : QE X B W (.Constant (.str z) j pos) (fC (.str z)) :=
  ⟨_, pe_str, fun n E S σ H Hf ρ Q r p => p _ _ _ _ r.hr (Tr.refl _ _ _) rfl⟩
theorem q_var (v : Vr X i x) : QE X B W (.Name x pos) (fVar i) := by
  refine ⟨_, pe_var v.ix v.vis v.db v.cd, fun n E S σ H Hf ρ Q r p => ?_⟩
  unfold fVar at p
  cases e : E[i]? with
  | none => rw [e] at p; exact p.elim
  | some o =>
    cases o with
    | none => rw [e] at p; exact p.elim
    | some s =>
      cases s with
      | own d => rw [e] at p; exact p.elim
      | fz d =>
        rw [e] at p
        obtain ⟨u, h1, h2⟩ := r.sl i _ e
        exact ⟨u, h1, p _ _ _ _ r.hr (Tr.refl _ _ _) h2⟩
theorem q_rd (v : Vr X i x) : QR X B W (.Name x pos) (fRd i) := by
  refine ⟨_, pe_var v.ix v.vis v.db v.cd, fun n E S σ H Hf ρ Q r p => ?_⟩
  unfold fRd at p
  cases e : E[i]? with
  | none => rw [e] at p; exact p.elim
  | some o =>
    cases o with
    | none => rw [e] at p; exact p.elim
    | some s =>
      cases s with
      | own d =>
        rw [e] at p
        obtain ⟨a, h1, _, _, h4, h5⟩ := r.sl i _ e
        refine ⟨.ref a, h1, p _ _ _ _ r.hr (Tr.refl _ _ _) ?_⟩
        cases d with
        | lst l => obtain ⟨vs, k1, k2⟩ := h5; exact ⟨a, vs, rfl, h4, k1, k2⟩
        | dct l => obtain ⟨vs, k1, k2⟩ := h5; exact ⟨a, vs, rfl, h4, k1, k2⟩
        | _ => exact h5.elim
      | fz d =>
        rw [e] at p
        obtain ⟨u, h1, h2⟩ := r.sl i _ e
        exact ⟨u, h1, p _ _ _ _ r.hr (Tr.refl _ _ _) (h2.dw r.hr)⟩
/-- a module's int -/
theorem q_gint {z : Int} (hg : Gl X x) (hm : ∃ t, X.mg x = some (.int z t)) (hd : (x == ("__debug__" : Str)) = false) : QE X B W (.Name x pos) (fC (.int z)) := by
  obtain ⟨t, hm⟩ := hm
  exact ⟨_, pe_glob (v := .int z) hg hm ⟨t, rfl⟩ hd, fun n E S σ H Hf ρ Q r p => p _ _ _ _ r.hr (Tr.refl _ _ _) rfl⟩
theorem q_gstr {z : Str} (hg : Gl X x) (hm : ∃ t, X.mg x = some (.str z t)) (hd : (x == ("__debug__" : Str)) = false) : QE X B W (.Name x pos) (fC (.str z)) := by
  obtain ⟨t, hm⟩ := hm
  exact ⟨_, pe_glob (v := .str z) hg hm ⟨t, rfl⟩ hd, fun n E S σ H Hf ρ Q r p => p _ _ _ _ r.hr (Tr.refl _ _ _) rfl⟩
/-- a def, a class, as a value -/
theorem q_gref (hg : Gl X x) (hm : X.mg x = some (.ref (He.ga X.K x))) (hd : (x == ("__debug__" : Str)) = false) : QE X B W (.Name x pos) (fC (.ref x)) :=
  ⟨_, pe_glob (v := .ref (He.ga X.K x)) hg hm rfl hd, fun n E S σ H Hf ρ Q r p => p _ _ _ _ r.hr (Tr.refl _ _ _) rfl⟩
end

/-! ### two-place operators -/
/-- f makes of two things what g tells -/
def OpQ (X : Cx) (F : Value → Value → Sem Value) (g : D → D → Option D) : Prop := ∃ r, OpR X F r ∧
  ∀ a b x y H Hf ρ S Q d, HR X.K H Hf ρ S → Dw X.K H Hf ρ a x → Dw X.K H Hf ρ b y → g a b = some d →
    (∀ v H' Hf' ρ', HR X.K H' Hf' ρ' S → Tr H Hf ρ H' Hf' ρ' → Dt X.K Hf' ρ' d v → Q v H') → r x y H Q
def fOp (g : D → D → Option D) (fa fb : FE) : FE := fun n E S => (fa n E S).bind fun a S1 => (fb n E S1).bind fun b S2 => match g a b with
  | some d => .ok d S2
  | none => .stk
theorem OpQ.orI {X : Cx} {F : Value → Value → Sem Value} {g g' G : D → D → Option D} (h : OpQ X F g) (h' : OpQ X F g') (hi : ∀ a b d, G a b = some d → g a b = some d ∨ g' a b = some d) : OpQ X F G := by
  obtain ⟨r, h1, h2⟩ := h
  obtain ⟨r', k1, k2⟩ := h'
  refine ⟨_, h1.or k1, fun a b x y H Hf ρ S Q d hr wa wb e q => ?_⟩
  rcases hi a b d e with z | z
  · exact .inl (h2 a b x y H Hf ρ S Q d hr wa wb z q)
  · exact .inr (k2 a b x y H Hf ρ S Q d hr wa wb z q)
section
variable {X : Cx} {B : Gr} {W : WX} {pos : Pos} {a b c : Expr} {fa fb fc : FE}
theorem q_two {g : D → D → Option D} {ta tb : TE} {r : R2}
    (ha : ∀ n E S σ H Hf ρ Q, Rel X.K B E S σ H Hf ρ → PostR X.K W σ H Hf ρ Q (fa n E S) → ta σ H Q)
    (hb : ∀ n E S σ H Hf ρ Q, Rel X.K B E S σ H Hf ρ → PostR X.K W σ H Hf ρ Q (fb n E S) → tb σ H Q)
    (hr : ∀ a b x y H Hf ρ S Q d, HR X.K H Hf ρ S → Dw X.K H Hf ρ a x → Dw X.K H Hf ρ b y → g a b = some d →
      (∀ v H' Hf' ρ', HR X.K H' Hf' ρ' S → Tr H Hf ρ H' Hf' ρ' → Dt X.K Hf' ρ' d v → Q v H') → r x y H Q)
    (n : Nat) (E : Env) (S : Store) (σ : L2.St) (H Hf : Hp) (ρ : List Addr) (Q : VK) (R : Rel X.K B E S σ H Hf ρ) (p : PostE X.K W σ H Hf ρ Q (fOp g fa fb n E S)) : tOp r ta tb σ H Q := by
  refine ha n E S σ H Hf ρ _ R ?_
  unfold fOp at p
  cases ea : fa n E S with
  | stk => rw [ea] at p; exact p
  | exc x S1 => rw [ea] at p; exact p
  | ok d1 S1 =>
    rw [ea] at p
    intro x H1 Hf1 ρ1 hr1 t1 w1
    refine hb n E S1 σ H1 Hf1 ρ1 _ (R.step hr1 t1) ?_
    have p : PostE X.K W σ H Hf ρ Q ((fb n E S1).bind fun b S2 => match g d1 b with | some d => .ok d S2 | none => .stk) := p
    cases eb : fb n E S1 with
    | stk => rw [eb] at p; exact p
    | exc x S2 => rw [eb] at p; exact PostX.tr t1 p
    | ok d2 S2 =>
      rw [eb] at p
      intro y H2 Hf2 ρ2 hr2 t2 w2
      have p : PostE X.K W σ H Hf ρ Q (match g d1 d2 with | some d => .ok d S2 | none => .stk) := p
      cases eg : g d1 d2 with
      | none => rw [eg] at p; exact p.elim
      | some d =>
        rw [eg] at p
        refine hr d1 d2 x y H2 Hf2 ρ2 S2 Q d hr2 (w1.mono t2 hr1) w2 eg fun v H' Hf' ρ' h1 h2 h3 => ?_
        exact p v H' Hf' ρ' h1 ((t1.trans t2).trans h2) h3
theorem q_op {op : Operator} {g : D → D → Option D} (ho : OpQ X (binaryOp op) g) (ha : QR X B W a fa) (hb : QR X B W b fb) : QE X B W (.BinOp a op b pos) (fOp g fa fb) := by
  obtain ⟨r, h1, h2⟩ := ho
  obtain ⟨ta, a1, a2⟩ := ha
  obtain ⟨tb, b1, b2⟩ := hb
  exact ⟨_, pe_op h1 a1 b1, q_two a2 b2 h2⟩
theorem q_cmp {op : CmpOp} {g : D → D → Option D} (ho : OpQ X (compareOp op) g) (hm : behindInMarks op b = false) (ha : QR X B W a fa) (hb : QR X B W b fb) : QE X B W (.Compare a [op] [b] pos) (fOp g fa fb) := by
  obtain ⟨r, h1, h2⟩ := ho
  obtain ⟨ta, a1, a2⟩ := ha
  obtain ⟨tb, b1, b2⟩ := hb
  exact ⟨_, pe_cmpR h1 a1 b1 hm, q_two a2 b2 h2⟩
end

/-! ### the operators -/
section
variable {X : Cx}
/-- ints, under a condition -/
def iOp (C : Int → Int → Bool) (gd : Int → Int → D) : D → D → Option D
  | .int i, .int j => if C i j = true then some (gd i j) else none
  | _, _ => none
theorem iOp_inv {C : Int → Int → Bool} {gd : Int → Int → D} {a b d : D} (h : iOp C gd a b = some d) : ∃ i j, a = .int i ∧ b = .int j ∧ C i j = true ∧ d = gd i j := by
  unfold iOp at h
  split at h
  · split at h
    · cases h
      exact ⟨_, _, rfl, rfl, by assumption, rfl⟩
    · cases h
  · cases h
theorem opq_int {F : Value → Value → Sem Value} {C : Int → Int → Prop} {Cb : Int → Int → Bool} {g : Int → Int → V} {gd : Int → Int → D} (h : OpR X F (rI C g)) (hc : ∀ i j, Cb i j = true → C i j) (hg : ∀ i j (Hf : Hp) (ρ : List Addr), Dt X.K Hf ρ (gd i j) (g i j)) :
    OpQ X F (iOp Cb gd) := by
  refine ⟨_, h, fun a b x y H Hf ρ S Q d hr wa wb e q => ?_⟩
  obtain ⟨i, j, rfl, rfl, c, rfl⟩ := iOp_inv e
  exact ⟨i, j, wa, wb, hc i j c, q _ _ _ _ hr (Tr.refl _ _ _) (hg i j Hf ρ)⟩
theorem opq_int0 {F : Value → Value → Sem Value} {g : Int → Int → V} {gd : Int → Int → D} (h : OpR X F (rI0 g)) (hg : ∀ i j (Hf : Hp) (ρ : List Addr), Dt X.K Hf ρ (gd i j) (g i j)) :
    OpQ X F (iOp (fun _ _ => true) gd) := by
  refine ⟨_, h, fun a b x y H Hf ρ S Q d hr wa wb e q => ?_⟩
  obtain ⟨i, j, rfl, rfl, c, rfl⟩ := iOp_inv e
  exact ⟨i, j, wa, wb, q _ _ _ _ hr (Tr.refl _ _ _) (hg i j Hf ρ)⟩

end
/-! ### lists of data -/
section
variable {K : PySem.W.Frag} {Hf : Hp} {ρ : List Addr}
theorem Dts.length : ∀ {l : List D} {vs : List V}, Dts K Hf ρ l vs → l.length = vs.length
  | [], vs, h => by simp only [Dts] at h; subst h; rfl
  | d :: l, vs, h => by
    simp only [Dts] at h
    obtain ⟨v, r, rfl, _, h3⟩ := h
    simp [Dts.length h3]
theorem Dts.append : ∀ {l m : List D} {vs us : List V}, Dts K Hf ρ l vs → Dts K Hf ρ m us → Dts K Hf ρ (l ++ m) (vs ++ us)
  | [], m, vs, us, h, g => by simp only [Dts] at h; subst h; exact g
  | d :: l, m, vs, us, h, g => by
    simp only [Dts] at h
    obtain ⟨v, r, rfl, h2, h3⟩ := h
    exact ⟨v, r ++ us, rfl, h2, Dts.append h3 g⟩
theorem Dts.one {d : D} {v : V} (h : Dt K Hf ρ d v) : Dts K Hf ρ [d] [v] := ⟨v, [], rfl, h, rfl⟩
theorem Dts.get : ∀ {l : List D} {vs : List V} {i : Nat} {d : D}, Dts K Hf ρ l vs → l[i]? = some d → ∃ v, vs[i]? = some v ∧ Dt K Hf ρ d v
  | [], _, _, _, _, e => by simp at e
  | c :: l, vs, 0, d, h, e => by
    simp only [Dts] at h
    obtain ⟨v, r, rfl, h2, h3⟩ := h
    simp at e; subst e
    exact ⟨v, rfl, h2⟩
  | c :: l, vs, i + 1, d, h, e => by
    simp only [Dts] at h
    obtain ⟨v, r, rfl, h2, h3⟩ := h
    obtain ⟨u, a, b⟩ := Dts.get (i := i) h3 (by simpa using e)
    exact ⟨u, by simpa using a, b⟩
theorem Dts.get' : ∀ {l : List D} {vs : List V} {i : Nat} {v : V}, Dts K Hf ρ l vs → vs[i]? = some v → ∃ d, l[i]? = some d ∧ Dt K Hf ρ d v := by
  intro l vs i v h e
  have hi : i < l.length := by rw [h.length]; exact (List.getElem?_eq_some_iff.mp e).1
  obtain ⟨u, a, b⟩ := h.get (List.getElem?_eq_getElem hi)
  rw [e] at a; cases a
  exact ⟨_, List.getElem?_eq_getElem hi, b⟩
theorem Dts.take : ∀ {l : List D} {vs : List V} (n : Nat), Dts K Hf ρ l vs → Dts K Hf ρ (l.take n) (vs.take n)
  | _, _, 0, _ => by simp [Dts]
  | [], vs, n + 1, h => by simp only [Dts] at h; subst h; simp [Dts]
  | c :: l, vs, n + 1, h => by
    simp only [Dts] at h
    obtain ⟨v, r, rfl, h2, h3⟩ := h
    exact ⟨v, r.take n, rfl, h2, Dts.take n h3⟩
theorem Dts.drop : ∀ {l : List D} {vs : List V} (n : Nat), Dts K Hf ρ l vs → Dts K Hf ρ (l.drop n) (vs.drop n)
  | _, _, 0, h => h
  | [], vs, n + 1, h => by simp only [Dts] at h; subst h; simp [Dts]
  | c :: l, vs, n + 1, h => by
    simp only [Dts] at h
    obtain ⟨v, r, rfl, h2, h3⟩ := h
    exact Dts.drop n h3
theorem Dts.reverse : ∀ {l : List D} {vs : List V}, Dts K Hf ρ l vs → Dts K Hf ρ l.reverse vs.reverse
  | [], vs, h => by simp only [Dts] at h; subst h; simp [Dts]
  | c :: l, vs, h => by
    simp only [Dts] at h
    obtain ⟨v, r, rfl, h2, h3⟩ := h
    rw [List.reverse_cons, List.reverse_cons]
    exact (Dts.reverse h3).append (Dts.one h2)
theorem Dts.set : ∀ {l : List D} {vs : List V} {d : D} {v : V} (i : Nat), Dts K Hf ρ l vs → Dt K Hf ρ d v → Dts K Hf ρ (l.set i d) (vs.set i v)
  | [], vs, _, _, i, h, g => by simp only [Dts] at h; subst h; simp [Dts]
  | c :: l, vs, d, v, 0, h, g => by
    simp only [Dts] at h
    obtain ⟨u, r, rfl, h2, h3⟩ := h
    exact ⟨v, r, rfl, g, h3⟩
  | c :: l, vs, d, v, i + 1, h, g => by
    simp only [Dts] at h
    obtain ⟨u, r, rfl, h2, h3⟩ := h
    exact ⟨u, r.set i v, rfl, h2, Dts.set i h3 g⟩
theorem Dts.ints : ∀ {ns : List Int} {vs : List V}, Dts K Hf ρ (ns.map D.int) vs → vs = ns.map V.int
  | [], vs, h => by simp only [List.map_nil, Dts] at h; exact h
  | n :: ns, vs, h => by
    simp only [List.map_cons, Dts] at h
    obtain ⟨v, r, rfl, h2, h3⟩ := h
    have h2 : v = .int n := h2
    rw [h2, Dts.ints h3]
    rfl
theorem Dts.ofInts : ∀ (ns : List Int), Dts K Hf ρ (ns.map D.int) (ns.map V.int)
  | [] => rfl
  | n :: ns => ⟨_, _, rfl, rfl, Dts.ofInts ns⟩
theorem Dts.bls : ∀ {ns : List Bool} {vs : List V}, Dts K Hf ρ (ns.map D.bl) vs → vs = ns.map V.bl
  | [], vs, h => by simp only [List.map_nil, Dts] at h; exact h
  | n :: ns, vs, h => by
    simp only [List.map_cons, Dts] at h
    obtain ⟨v, r, rfl, h2, h3⟩ := h
    have h2 : v = .bl n := h2
    rw [h2, Dts.bls h3]
    rfl
theorem Dts.strs : ∀ {ns : List Str} {vs : List V}, Dts K Hf ρ (ns.map D.str) vs → vs = ns.map V.str
  | [], vs, h => by simp only [List.map_nil, Dts] at h; exact h
  | n :: ns, vs, h => by
    simp only [List.map_cons, Dts] at h
    obtain ⟨v, r, rfl, h2, h3⟩ := h
    have h2 : v = .str n := h2
    rw [h2, Dts.strs h3]
    rfl
theorem Dts.ofStrs : ∀ (ns : List Str), Dts K Hf ρ (ns.map D.str) (ns.map V.str)
  | [] => rfl
  | n :: ns => ⟨_, _, rfl, rfl, Dts.ofStrs ns⟩
end
/-- the ints of a list of data -/
def ints? : List D → Option (List Int)
  | [] => some []
  | .int i :: l => (ints? l).map (i :: ·)
  | _ :: _ => none
theorem ints?_eq : ∀ {l : List D} {ns : List Int}, ints? l = some ns → l = ns.map D.int
  | [], ns, h => by cases h; rfl
  | .int i :: l, ns, h => by
    simp only [ints?, Option.map_eq_some_iff] at h
    obtain ⟨m, h1, rfl⟩ := h
    rw [ints?_eq h1]; rfl
  | .non :: _, _, h | .bl _ :: _, _, h | .str _ :: _, _, h | .tup _ :: _, _, h | .lst _ :: _, _, h | .dct _ :: _, _, h | .ref _ :: _, _, h | .hd _ :: _, _, h | .scr _ :: _, _, h | .ty _ :: _, _, h => by cases h
@[simp] theorem ints?_map (ns : List Int) : ints? (ns.map D.int) = some ns := by
  induction ns with
  | nil => rfl
  | cons n ns ih => simp [ints?, ih]
def bls? : List D → Option (List Bool)
  | [] => some []
  | .bl i :: l => (bls? l).map (i :: ·)
  | _ :: _ => none
theorem bls?_eq : ∀ {l : List D} {ns : List Bool}, bls? l = some ns → l = ns.map D.bl
  | [], ns, h => by cases h; rfl
  | .bl i :: l, ns, h => by
    simp only [bls?, Option.map_eq_some_iff] at h
    obtain ⟨m, h1, rfl⟩ := h
    rw [bls?_eq h1]; rfl
  | .non :: _, _, h | .int _ :: _, _, h | .str _ :: _, _, h | .tup _ :: _, _, h | .lst _ :: _, _, h | .dct _ :: _, _, h | .ref _ :: _, _, h | .hd _ :: _, _, h | .scr _ :: _, _, h | .ty _ :: _, _, h => by cases h
@[simp] theorem bls?_map (ns : List Bool) : bls? (ns.map D.bl) = some ns := by
  induction ns with
  | nil => rfl
  | cons n ns ih => simp [bls?, ih]
def strs? : List D → Option (List Str)
  | [] => some []
  | .str i :: l => (strs? l).map (i :: ·)
  | _ :: _ => none
theorem strs?_eq : ∀ {l : List D} {ns : List Str}, strs? l = some ns → l = ns.map D.str
  | [], ns, h => by cases h; rfl
  | .str i :: l, ns, h => by
    simp only [strs?, Option.map_eq_some_iff] at h
    obtain ⟨m, h1, rfl⟩ := h
    rw [strs?_eq h1]; rfl
  | .non :: _, _, h | .int _ :: _, _, h | .bl _ :: _, _, h | .tup _ :: _, _, h | .lst _ :: _, _, h | .dct _ :: _, _, h | .ref _ :: _, _, h | .hd _ :: _, _, h | .scr _ :: _, _, h | .ty _ :: _, _, h => by cases h
@[simp] theorem strs?_map (ns : List Str) : strs? (ns.map D.str) = some ns := by
  induction ns with
  | nil => rfl
  | cons n ns ih => simp [strs?, ih]
/-- a new frozen thing as an answer -/
theorem new_ans {K : PySem.W.Frag} {H Hf : Hp} {ρ : List Addr} {S : Store} {d : D} {o : HO} {p : Addr} {Q : VK} (hr : HR K H Hf ρ S) (hp : H p = none)
    (hd : ∀ Hf', Ext Hf Hf' → Hf' p = some o → Dt K Hf' ρ d (.ref p))
    (q : ∀ v H' Hf' ρ', HR K H' Hf' ρ' S → Tr H Hf ρ H' Hf' ρ' → Dt K Hf' ρ' d v → Q v H') : Q (.ref p) (upd H p o) :=
  q _ _ _ _ (hr.new hp (hr.notin hp)) (Tr.new hp hr.sub) (hd _ (Tr.new (ρ := ρ) (o := o) hp hr.sub).hf upd_same)
end DL

end

section
set_option autoImplicit false
set_option autoImplicit false
namespace DL
open PySem PySem.Spec PyProof.Rows L2

/-! ### data as the library's -/
mutual
def D.py : D → Option PyData
  | .non => some .none
  | .bl b => some (.bool b)
  | .int i => some (.int i)
  | .str s => some (.str s)
  | .tup l => (D.pys l).map .tuple
  | .lst l => (D.pys l).map .list
  | .dct _ => none
  | .ref _ => none
  | .hd _ => none
  | .scr _ => none
  | .ty _ => none
def D.pys : List D → Option (List PyData)
  | [] => some []
  | d :: l => match D.py d, D.pys l with
    | some a, some b => some (a :: b)
    | _, _ => none
end
section
variable {K : PySem.W.Frag} {H Hf : Hp} {ρ : List Addr}
mutual
theorem Dt.dp (hs : Ext Hf H) : ∀ (d : D) (v : V) (p : PyData), Dt K Hf ρ d v → d.py = some p → Dp K H v p
  | .non, v, p, h, e => by
    have h : v = .non := h
    subst h; simp only [D.py] at e; cases e; exact .non
  | .bl b, v, p, h, e => by
    have h : v = .bl b := h
    subst h; simp only [D.py] at e; cases e; exact .bl b
  | .int b, v, p, h, e => by
    have h : v = .int b := h
    subst h; simp only [D.py] at e; cases e; exact .int b
  | .str b, v, p, h, e => by
    have h : v = .str b := h
    subst h; simp only [D.py] at e; cases e; exact .str b
  | .tup l, v, p, h, e => by
    simp only [Dt] at h
    obtain ⟨a, vs, rfl, h2, h3⟩ := h
    simp only [D.py, Option.map_eq_some_iff] at e
    obtain ⟨ps, e1, rfl⟩ := e
    exact .tup (hs.sqT h2) (Dts.dp hs l vs ps h3 e1)
  | .lst l, v, p, h, e => by
    simp only [Dt] at h
    obtain ⟨a, vs, rfl, h2, h3⟩ := h
    simp only [D.py, Option.map_eq_some_iff] at e
    obtain ⟨ps, e1, rfl⟩ := e
    exact .lst (SqL.of (hs _ _ h2)) (Dts.dp hs l vs ps h3 e1)
  | .dct l, v, p, h, e => by simp only [D.py] at e; cases e
  | .ref l, v, p, h, e => by simp only [D.py] at e; cases e
  | .hd l, v, p, h, e => by simp only [D.py] at e; cases e
  | .scr l, v, p, h, e => by simp only [D.py] at e; cases e
  | .ty l, v, p, h, e => by simp only [D.py] at e; cases e
theorem Dts.dp (hs : Ext Hf H) : ∀ (l : List D) (vs : List V) (ps : List PyData), Dts K Hf ρ l vs → D.pys l = some ps → DpAll K H vs ps
  | [], vs, ps, h, e => by
    simp only [Dts] at h; subst h
    simp only [D.pys] at e; cases e; exact .nil
  | d :: l, vs, ps, h, e => by
    simp only [Dts] at h
    obtain ⟨v, r, rfl, h2, h3⟩ := h
    simp only [D.pys] at e
    split at e
    · rename_i a b e1 e2
      cases e
      exact .cons (Dt.dp hs d v a h2 e1) (Dts.dp hs l r b h3 e2)
    · cases e
end
theorem Dw.dp {S : Store} (hr : HR K H Hf ρ S) {d : D} {v : V} {p : PyData} (h : Dw K H Hf ρ d v) (e : d.py = some p) : Dp K H v p := by
  cases d with
  | lst l =>
    obtain ⟨a, vs, rfl, _, h2, h3⟩ := h
    simp only [D.py, Option.map_eq_some_iff] at e
    obtain ⟨ps, e1, rfl⟩ := e
    exact .lst (SqL.of h2) (Dts.dp hr.sub l vs ps h3 e1)
  | dct l => simp only [D.py] at e; cases e
  | non => exact Dt.dp hr.sub _ _ _ (show Dt K Hf ρ .non v from h) e
  | bl b => exact Dt.dp hr.sub _ _ _ (show Dt K Hf ρ (.bl b) v from h) e
  | int b => exact Dt.dp hr.sub _ _ _ (show Dt K Hf ρ (.int b) v from h) e
  | str b => exact Dt.dp hr.sub _ _ _ (show Dt K Hf ρ (.str b) v from h) e
  | tup b => exact Dt.dp hr.sub _ _ _ (show Dt K Hf ρ (.tup b) v from h) e
  | ref b => simp only [D.py] at e; cases e
  | hd b => simp only [D.py] at e; cases e
  | scr b => simp only [D.py] at e; cases e
  | ty b => simp only [D.py] at e; cases e
end
/-- == of scalars of one kind -/
def scalD : D → D → Option Bool
  | .int i, .int j => some (decide (i = j))
  | .str i, .str j => some (decide (i = j))
  | .bl i, .bl j => some (decide (i = j))
  | .non, .non => some true
  | _, _ => none
def deepD (a b : D) : Option Bool := match a.py, b.py with
  | some p, some q => if (SeqAt.shaped p && SeqAt.shaped q) = true then some (PyData.eqv p q) else none
  | _, _ => none
def eqD (a b : D) : Option Bool := match scalD a b with
  | some r => some r
  | none => deepD a b
def gEq (a b : D) : Option D := (eqD a b).map D.bl
def gNe (a b : D) : Option D := (eqD a b).map fun r => D.bl (!r)
theorem scalD_inv {K : PySem.W.Frag} {H Hf : Hp} {ρ : List Addr} {a b : D} {x y : V} {r : Bool} (h : scalD a b = some r) (ha : Dw K H Hf ρ a x) (hb : Dw K H Hf ρ b y) : scal x y = true ∧ decide (x = y) = r := by
  unfold scalD at h
  split at h <;> try cases h
  · have ha : x = .int _ := ha
    have hb : y = .int _ := hb
    subst ha hb; exact ⟨rfl, by simp⟩
  · have ha : x = .str _ := ha
    have hb : y = .str _ := hb
    subst ha hb; exact ⟨rfl, by simp⟩
  · have ha : x = .bl _ := ha
    have hb : y = .bl _ := hb
    subst ha hb; exact ⟨rfl, by simp⟩
  · have ha : x = .non := ha
    have hb : y = .non := hb
    subst ha hb; exact ⟨rfl, by simp⟩
theorem deepD_inv {a b : D} {r : Bool} (h : deepD a b = some r) : ∃ p q, a.py = some p ∧ b.py = some q ∧ SeqAt.shaped p = true ∧ SeqAt.shaped q = true ∧ r = PyData.eqv p q := by
  unfold deepD at h
  split at h
  · rename_i p q e1 e2
    split at h
    · rename_i hc
      rw [Bool.and_eq_true] at hc
      cases h
      exact ⟨p, q, e1, e2, hc.1, hc.2, rfl⟩
    · cases h
  · cases h
section
variable {X : Cx}
theorem opq_eq (hu : X.A.units + 64 < cLine) : OpQ X (compareOp .Eq) gEq := by
  refine ⟨_, op_eq.or (op_eqD hu), fun a b x y H Hf ρ S Q d hr wa wb e q => ?_⟩
  simp only [gEq, Option.map_eq_some_iff] at e
  obtain ⟨r, e, rfl⟩ := e
  unfold eqD at e
  split at e
  · rename_i r' e1
    cases e
    obtain ⟨h1, h2⟩ := scalD_inv e1 wa wb
    refine .inl ⟨h1, ?_⟩
    rw [h2]
    exact q _ _ _ _ hr (Tr.refl _ _ _) rfl
  · obtain ⟨p, p', e1, e2, s1, s2, rfl⟩ := deepD_inv e
    exact .inr ⟨p, p', wa.dp hr e1, wb.dp hr e2, s1, s2, q _ _ _ _ hr (Tr.refl _ _ _) rfl⟩
theorem opq_ne (hu : X.A.units + 64 < cLine) : OpQ X (compareOp .NotEq) gNe := by
  refine ⟨_, op_ne.or (op_neD hu), fun a b x y H Hf ρ S Q d hr wa wb e q => ?_⟩
  simp only [gNe, Option.map_eq_some_iff] at e
  obtain ⟨r, e, rfl⟩ := e
  unfold eqD at e
  split at e
  · rename_i r' e1
    cases e
    obtain ⟨h1, h2⟩ := scalD_inv e1 wa wb
    refine .inl ⟨h1, ?_⟩
    rw [h2]
    exact q _ _ _ _ hr (Tr.refl _ _ _) rfl
  · obtain ⟨p, p', e1, e2, s1, s2, rfl⟩ := deepD_inv e
    exact .inr ⟨p, p', wa.dp hr e1, wb.dp hr e2, s1, s2, q _ _ _ _ hr (Tr.refl _ _ _) rfl⟩
end

/-! ### + -/
def gAdd : D → D → Option D
  | .int i, .int j => some (.int (i + j))
  | .str i, .str j => if i.length + j.length ≤ sizeLine then some (.str (i ++ j)) else none
  | .tup i, .tup j => if i.length + j.length ≤ sizeLine then some (.tup (i ++ j)) else none
  | .lst i, .lst j => if i.length + j.length ≤ sizeLine then some (.lst (i ++ j)) else none
  | _, _ => none
section
variable {X : Cx}
def gAddS : D → D → Option D
  | .str i, .str j => if i.length + j.length ≤ sizeLine then some (.str (i ++ j)) else none
  | _, _ => none
def gAddT : D → D → Option D
  | .tup i, .tup j => if i.length + j.length ≤ sizeLine then some (.tup (i ++ j)) else none
  | _, _ => none
def gAddL : D → D → Option D
  | .lst i, .lst j => if i.length + j.length ≤ sizeLine then some (.lst (i ++ j)) else none
  | _, _ => none
theorem opq_addS : OpQ X (binaryOp .Add) gAddS := by
  refine ⟨_, op_add_str, fun a b x y H Hf ρ S Q d hr wa wb e q => ?_⟩
  unfold gAddS at e
  split at e
  · rename_i i j
    split at e
    · rename_i hc
      cases e
      exact ⟨i, j, wa, wb, hc, q _ _ _ _ hr (Tr.refl _ _ _) rfl⟩
    · cases e
  · cases e
theorem opq_addL : OpQ X (binaryOp .Add) gAddL := by
  refine ⟨_, op_cat, fun a b x y H Hf ρ S Q d hr wa wb e q => ?_⟩
  unfold gAddL at e
  split at e
  · rename_i i j
    split at e
    · rename_i hc
      cases e
      obtain ⟨l, vs, rfl, _, h1, h2⟩ := wa
      obtain ⟨m, us, rfl, _, h3, h4⟩ := wb
      refine ⟨l, m, vs, us, rfl, rfl, h1, h3, by rw [← h2.length, ← h4.length]; exact hc, fun p hp => ?_⟩
      exact new_ans (d := .lst (i ++ j)) hr hp (fun Hf' ex hq => ⟨p, _, rfl, hq, (h2.append h4).mono ex (Pre.refl _)⟩) q
    · cases e
  · cases e
theorem opq_addT : OpQ X (binaryOp .Add) gAddT := by
  refine ⟨_, op_catA, fun a b x y H Hf ρ S Q d hr wa wb e q => ?_⟩
  unfold gAddT at e
  split at e
  · rename_i i j
    split at e
    · rename_i hc
      cases e
      obtain ⟨l, vs, rfl, h1, h2⟩ := (show Dt X.K Hf ρ (.tup i) x from wa)
      obtain ⟨m, us, rfl, h3, h4⟩ := (show Dt X.K Hf ρ (.tup j) y from wb)
      refine ⟨l, m, vs, us, rfl, rfl, hr.sub.sqT h1, hr.sub.sqT h3, by rw [← h2.length, ← h4.length]; exact hc, fun z => ?_, fun z1 z2 => ?_, fun z1 z2 p hp => ?_⟩
      · subst z
        cases i with
        | nil => exact q _ _ _ _ hr (Tr.refl _ _ _) ⟨m, us, rfl, h3, h4⟩
        | cons c i => have := h2.length; simp at this
      · subst z2
        cases j with
        | nil => exact q _ _ _ _ hr (Tr.refl _ _ _) ⟨l, vs, rfl, h1, by rw [List.append_nil]; exact h2⟩
        | cons c i => have := h4.length; simp at this
      · exact new_ans (d := .tup (i ++ j)) hr hp (fun Hf' ex hq => ⟨p, _, rfl, SqT.of hq, (h2.append h4).mono ex (Pre.refl _)⟩) q
    · cases e
  · cases e
theorem opq_add : OpQ X (binaryOp .Add) gAdd := by
  have h1 : OpQ X (binaryOp .Add) (iOp (fun _ _ => true) fun i j => .int (i + j)) := opq_int0 op_add fun _ _ _ _ => rfl
  refine OpQ.orI (OpQ.orI h1 opq_addS (G := fun a b => match a, b with | .int i, .int j => some (.int (i + j)) | .str i, .str j => if i.length + j.length ≤ sizeLine then some (.str (i ++ j)) else none | _, _ => none) ?_)
    (OpQ.orI opq_addT opq_addL (G := fun a b => match a, b with | .tup i, .tup j => if i.length + j.length ≤ sizeLine then some (.tup (i ++ j)) else none | .lst i, .lst j => if i.length + j.length ≤ sizeLine then some (.lst (i ++ j)) else none | _, _ => none) ?_) ?_
  · intro a b d e
    cases a <;> cases b <;> simp_all [iOp, gAddS]
  · intro a b d e
    cases a <;> cases b <;> simp_all [gAddT, gAddL]
  · intro a b d e
    cases a <;> cases b <;> simp_all [gAdd]
end
/-! ### -, *, //, %, **, <<, & -/
def gSub : D → D → Option D := iOp (fun _ _ => true) fun i j => .int (i - j)
/-- the sizes that * takes -/
def mulOk (i j : Int) : Bool := decide (i.natAbs < 2 ^ 64) || decide (j.natAbs < 2 ^ 64) || decide (i.natAbs.log2 + j.natAbs.log2 < 1000000)
def gMulI : D → D → Option D := iOp mulOk fun i j => .int (i * j)
def gMul : D → D → Option D
  | .int i, .int j => if mulOk i j = true then some (.int (i * j)) else none
  | .lst l, .int k => if decide (k < 2 ^ 63) && decide (-(2 ^ 63) ≤ k) && decide (l.length * k.toNat ≤ sizeLine) then some (.lst (List.replicate k.toNat l).flatten) else none
  | _, _ => none
def gDiv : D → D → Option D := iOp (fun _ j => decide (0 < j) && decide (j.natAbs.log2 < 9000)) fun i j => .int (i / j)
def gMod : D → D → Option D := iOp (fun _ j => decide (0 < j)) fun i j => .int (i % j)
def gPow : D → D → Option D := iOp (fun i j => decide (0 ≤ j) && decide (j ≤ 1000000) && decide (i.natAbs < 2 ^ 64)) fun i j => .int (i ^ j.toNat)
def gShl : D → D → Option D := iOp (fun i j => decide (0 ≤ j) && decide (j ≤ 1000000) && decide (i.natAbs < 2 ^ 64)) fun i j => .int (i * 2 ^ j.toNat)
def gShr : D → D → Option D := iOp (fun _ j => decide (0 ≤ j)) fun i j => .int (i / 2 ^ j.toNat)
def gAnd : D → D → Option D := iOp (fun _ _ => true) fun i j => .int (Builtin.bitAnd i j)
section
variable {X : Cx}
theorem opq_sub : OpQ X (binaryOp .Sub) gSub := opq_int0 op_sub fun _ _ _ _ => rfl
theorem opq_mulI : OpQ X (binaryOp .Mult) gMulI := by
  have h : OpR X (binaryOp .Mult) (rI (fun i j => CMul i j ∨ CMulW i j) fun i j => .int (i * j)) := by
    intro pins s σ H x y v u Q I rx ry h
    obtain ⟨i, j, e1, e2, hc | hc, q⟩ := h
    · exact op_mul pins s σ H x y v u Q I rx ry ⟨i, j, e1, e2, hc, q⟩
    · exact op_mulW pins s σ H x y v u Q I rx ry ⟨i, j, e1, e2, hc, q⟩
  refine opq_int h (fun i j e => ?_) fun _ _ _ _ => rfl
  unfold mulOk at e
  simp only [Bool.or_eq_true, decide_eq_true_eq] at e
  rcases e with (e | e) | e
  · exact .inl (.inl (by omega))
  · exact .inl (.inr (by omega))
  · exact .inr e
theorem Dts.rep {K : PySem.W.Frag} {Hf : Hp} {ρ : List Addr} {l : List D} {vs : List V} (h : Dts K Hf ρ l vs) : ∀ k : Nat, Dts K Hf ρ (List.replicate k l).flatten (List.replicate k vs).flatten
  | 0 => by simp [Dts]
  | k + 1 => by
    rw [List.replicate_succ, List.replicate_succ, List.flatten_cons, List.flatten_cons]
    exact h.append (Dts.rep h k)
def gRep : D → D → Option D
  | .lst l, .int k => if decide (k < 2 ^ 63) && decide (-(2 ^ 63) ≤ k) && decide (l.length * k.toNat ≤ sizeLine) then some (.lst (List.replicate k.toNat l).flatten) else none
  | _, _ => none
theorem opq_rep : OpQ X (binaryOp .Mult) gRep := by
  refine ⟨_, op_rep, fun a b x y H Hf ρ S Q d hr wa wb e q => ?_⟩
  unfold gRep at e
  split at e
  · rename_i l k
    split at e
    · rename_i hc
      simp only [Bool.and_eq_true, decide_eq_true_eq] at hc
      cases e
      obtain ⟨z, vs, rfl, _, h1, h2⟩ := wa
      have wb : y = .int k := wb
      refine ⟨z, k, vs, rfl, wb, h1, hc.1.2, hc.1.1, by rw [← h2.length]; exact hc.2, fun p hp => ?_⟩
      exact new_ans (d := .lst (List.replicate k.toNat l).flatten) hr hp (fun Hf' ex hq => ⟨p, _, rfl, hq, (h2.rep _).mono ex (Pre.refl _)⟩) q
    · cases e
  · cases e
theorem opq_mul : OpQ X (binaryOp .Mult) gMul := by
  refine OpQ.orI opq_mulI opq_rep ?_
  intro a b d e
  cases a <;> cases b <;> simp_all [gMulI, iOp, gRep, gMul]
theorem opq_div : OpQ X (binaryOp .FloorDiv) gDiv := by
  refine opq_int op_fdivW (fun i j e => ?_) fun _ _ _ _ => rfl
  simp only [Bool.and_eq_true, decide_eq_true_eq] at e
  exact e
theorem opq_mod : OpQ X (binaryOp .Mod) gMod := opq_int op_mod (fun i j e => of_decide_eq_true e) fun _ _ _ _ => rfl
theorem opq_pow : OpQ X (binaryOp .Pow) gPow := by
  refine opq_int op_pow (fun i j e => ?_) fun _ _ _ _ => rfl
  simp only [Bool.and_eq_true, decide_eq_true_eq] at e
  exact ⟨e.1.1, e.1.2, e.2⟩
theorem opq_shl : OpQ X (binaryOp .LShift) gShl := by
  refine opq_int op_shl (fun i j e => ?_) fun _ _ _ _ => rfl
  simp only [Bool.and_eq_true, decide_eq_true_eq] at e
  exact ⟨e.1.1, e.1.2, e.2⟩
theorem opq_shr : OpQ X (binaryOp .RShift) gShr := opq_int op_shr (fun i j e => of_decide_eq_true e) fun _ _ _ _ => rfl
theorem opq_and : OpQ X (binaryOp .BitAnd) gAnd := opq_int0 op_and fun _ _ _ _ => rfl
end
/-! ### comparisons of ints; is None -/
def gLt : D → D → Option D := iOp (fun _ _ => true) fun i j => .bl (decide (i < j))
def gLe : D → D → Option D := iOp (fun _ _ => true) fun i j => .bl (decide (i ≤ j))
def gGt : D → D → Option D := iOp (fun _ _ => true) fun i j => .bl (decide (j < i))
def gGe : D → D → Option D := iOp (fun _ _ => true) fun i j => .bl (decide (j ≤ i))
def gIs : D → D → Option D
  | a, .non => some (.bl (match a with | .non => true | _ => false))
  | _, _ => none
def gIsN : D → D → Option D
  | a, .non => some (.bl (match a with | .non => false | _ => true))
  | _, _ => none
section
variable {X : Cx}
theorem opq_lt : OpQ X (compareOp .Lt) gLt := opq_int0 op_lt fun _ _ _ _ => rfl
theorem opq_le : OpQ X (compareOp .LtE) gLe := opq_int0 op_le fun _ _ _ _ => rfl
theorem opq_gt : OpQ X (compareOp .Gt) gGt := opq_int0 op_gt fun _ _ _ _ => rfl
theorem opq_ge : OpQ X (compareOp .GtE) gGe := opq_int0 op_ge fun _ _ _ _ => rfl
theorem dw_non {K : PySem.W.Frag} {H Hf : Hp} {ρ : List Addr} {a : D} {x : V} (h : Dw K H Hf ρ a x) : decide (x = .non) = (match a with | .non => true | _ => false) := by
  cases a with
  | non => have h : x = .non := h; subst h; rfl
  | bl b => have h : x = .bl b := h; subst h; rfl
  | int b => have h : x = .int b := h; subst h; rfl
  | str b => have h : x = .str b := h; subst h; rfl
  | ref b => have h : x = .ref (He.ga K b) := h; subst h; rfl
  | ty b => have h : x = .ty b := h; subst h; rfl
  | tup b => obtain ⟨p, vs, rfl, _⟩ := (show Dt K Hf ρ (.tup b) x from h); rfl
  | lst b => obtain ⟨p, vs, rfl, _⟩ := h; rfl
  | dct b => obtain ⟨p, vs, rfl, _⟩ := h; rfl
  | hd b => obtain ⟨p, _, rfl⟩ := (show Dt K Hf ρ (.hd b) x from h); rfl
  | scr b => obtain ⟨p, rfl, _⟩ := (show Dt K Hf ρ (.scr b) x from h); rfl
theorem opq_is : OpQ X (compareOp .Is) gIs := by
  refine ⟨_, op_isN, fun a b x y H Hf ρ S Q d hr wa wb e q => ?_⟩
  unfold gIs at e
  split at e
  · cases e
    refine ⟨wb, ?_⟩
    rw [dw_non wa]
    refine q _ _ _ _ hr (Tr.refl _ _ _) ?_
    cases a <;> rfl
  · cases e
theorem opq_isN : OpQ X (compareOp .IsNot) gIsN := by
  refine ⟨_, op_notN, fun a b x y H Hf ρ S Q d hr wa wb e q => ?_⟩
  unfold gIsN at e
  split at e
  · cases e
    refine ⟨wb, ?_⟩
    rw [dw_non wa]
    refine q _ _ _ _ hr (Tr.refl _ _ _) ?_
    cases a <;> rfl
  · cases e
end
end DL

end

section
set_option autoImplicit false
set_option autoImplicit false
namespace DL
open PySem PySem.Spec PyProof.Rows L2

/-! ### tests -/
/-- truth of data -/
def truD : D → Option Bool
  | .non => some false
  | .bl b => some b
  | .int i => some (i != 0)
  | .tup l => some (!l.isEmpty)
  | .lst l => some (!l.isEmpty)
  | .dct l => some (!l.isEmpty)
  | .str s => if s.length ≤ sizeLine then some ((s.length : Int) != 0) else none
  | _ => none
def fTru (f : FE) : FT := fun n E S => (f n E S).bind fun d S1 => match truD d with
  | some b => .ok b S1
  | none => .stk
/-- an expression that gives a bool -/
def fBool (f : FE) : FT := fun n E S => (f n E S).bind fun d S1 => match d with
  | .bl b => .ok b S1
  | _ => .stk
section
variable {K : PySem.W.Frag} {W : WX} {σ : L2.St} {H Hf : Hp} {ρ : List Addr} {Q : Bool → Hp → Prop}
theorem PostE.ofBool {f : FE} {n : Nat} {E : Env} {S : Store} (p : PostT K W σ H Hf ρ Q (fBool f n E S)) : PostE K W σ H Hf ρ (fun x H' => ∃ k, x = .bl k ∧ Q k H') (f n E S) := by
  unfold fBool at p
  cases e : f n E S with
  | stk => rw [e] at p; exact p
  | exc x S1 => rw [e] at p; exact p
  | ok d S1 =>
    rw [e] at p
    cases d <;> try exact p.elim
    rename_i b
    intro v H' Hf' ρ' h1 h2 h3
    exact ⟨b, h3, p H' Hf' ρ' h1 h2⟩
theorem truV_of {S : Store} {d : D} {v : V} {k : Bool} (hr : HR K H Hf ρ S) (w : Dw K H Hf ρ d v) (h : truD d = some k) : TruV K v H k := by
  cases d with
  | non => cases h; have w : v = .non := w; subst w; rfl
  | bl b => have w : v = .bl b := w; subst w; cases h; rfl
  | int b => cases h; have w : v = .int b := w; subst w; rfl
  | str b =>
    have w : v = .str b := w
    subst w
    have h : (if b.length ≤ sizeLine then some ((b.length : Int) != 0) else none) = some k := h
    by_cases hc : b.length ≤ sizeLine
    · rw [if_pos hc] at h
      cases h; exact ⟨hc, rfl⟩
    · rw [if_neg hc] at h; cases h
  | tup l =>
    cases h
    obtain ⟨a, vs, rfl, h1, h2⟩ := (show Dt K Hf ρ (.tup l) v from w)
    refine .inr (.inl ⟨vs, hr.sub.sqT h1, ?_⟩)
    have := h2.length
    cases l <;> cases vs <;> simp_all
  | lst l =>
    cases h
    obtain ⟨a, vs, rfl, _, h1, h2⟩ := w
    refine .inl ⟨vs, SqL.of h1, ?_⟩
    have := h2.length
    cases l <;> cases vs <;> simp_all
  | dct l =>
    cases h
    obtain ⟨a, vs, rfl, _, h1, h2⟩ := w
    refine .inr (.inr ⟨vs, h1, ?_⟩)
    cases l with
    | nil => simp only [Dks] at h2; subst h2; rfl
    | cons c l => obtain ⟨k, d⟩ := c; simp only [Dks] at h2; obtain ⟨v, r, rfl, _⟩ := h2; rfl
  | ref a => cases h
  | hd a => cases h
  | scr a => cases h
  | ty a => cases h
end
section
variable {X : Cx} {B : Gr} {W : WX} {pos : Pos} {a b c : Expr} {fa fb fc : FE} {ga gb : FT} {rest : List Expr}
theorem t_tru (ha : QR X B W a fa) (he : ∀ whole, isTrue a X.env whole = (do let v ← whole; standAt a.pos; holding [v] (truthy v))) : QT X B W a (fTru fa) := by
  obtain ⟨t, h1, h2⟩ := ha
  refine ⟨_, pt_truth h1 he, fun n E S σ H Hf ρ Q r p => h2 n E S σ H Hf ρ _ r ?_⟩
  unfold fTru at p
  cases e : fa n E S with
  | stk => rw [e] at p; exact p
  | exc x S1 => rw [e] at p; exact p
  | ok d S1 =>
    rw [e] at p
    have p : PostT X.K W σ H Hf ρ Q (match truD d with | some b => .ok b S1 | none => .stk) := p
    cases et : truD d with
    | none => rw [et] at p; exact p.elim
    | some k =>
      rw [et] at p
      intro v H' Hf' ρ' h1 h2 h3
      exact ⟨k, truV_of h1 h3 et, p H' Hf' ρ' h1 h2⟩
/-- a bool as a test (a call, a name) -/
theorem t_val (ha : QE X B W a fa) (he : ∀ whole, isTrue a X.env whole = (do let v ← whole; standAt a.pos; holding [v] (truthy v))) : QT X B W a (fBool fa) := by
  obtain ⟨t, h1, h2⟩ := ha
  exact ⟨_, pt_val h1 he, fun n E S σ H Hf ρ Q r p => h2 n E S σ H Hf ρ _ r (PostE.ofBool p)⟩
theorem t_cmp {op : CmpOp} {g : D → D → Option D} (ho : OpQ X (compareOp op) g) (hm : behindInMarks op b = false) (ha : QR X B W a fa) (hb : QR X B W b fb) : QT X B W (.Compare a [op] [b] pos) (fBool (fOp g fa fb)) := by
  obtain ⟨r, h1, h2⟩ := ho
  obtain ⟨ta, a1, a2⟩ := ha
  obtain ⟨tb, b1, b2⟩ := hb
  exact ⟨_, pt_cmpR h1 a1 b1 hm, fun n E S σ H Hf ρ Q R p => q_two a2 b2 h2 n E S σ H Hf ρ _ R (PostE.ofBool p)⟩

def fNotT (f : FT) : FT := fun n E S => (f n E S).bind fun b S1 => .ok (!b) S1
theorem t_not (ha : QT X B W a ga) : QT X B W (.UnaryOp .Not a pos) (fNotT ga) := by
  obtain ⟨t, h1, h2⟩ := ha
  refine ⟨_, pt_not h1, fun n E S σ H Hf ρ Q r p => h2 n E S σ H Hf ρ _ r ?_⟩
  unfold fNotT at p
  cases e : ga n E S with
  | stk => rw [e] at p; exact p
  | exc x S1 => rw [e] at p; exact p
  | ok d S1 => rw [e] at p; exact fun H' Hf' ρ' h1 h2 => p H' Hf' ρ' h1 h2
def fAndT (f g : FT) : FT := fun n E S => (f n E S).bind fun b S1 => match b with
  | true => g n E S1
  | false => .ok false S1
def fOrT (f g : FT) : FT := fun n E S => (f n E S).bind fun b S1 => match b with
  | true => .ok true S1
  | false => g n E S1
theorem w_and1 (ha : QT X B W a ga) : QW X B W (.BoolOp .And [a] pos) ga := by
  obtain ⟨t, h1, h2⟩ := ha
  exact ⟨_, pw_and1 h1, h2⟩
theorem w_or1 (ha : QT X B W a ga) : QW X B W (.BoolOp .Or [a] pos) ga := by
  obtain ⟨t, h1, h2⟩ := ha
  exact ⟨_, pw_or1 h1, h2⟩
theorem w_and (ha : QT X B W a ga) (hb : QW X B W (.BoolOp .And (b :: rest) pos) gb) : QW X B W (.BoolOp .And (a :: b :: rest) pos) (fAndT ga gb) := by
  obtain ⟨t, h1, h2⟩ := ha
  obtain ⟨u, k1, k2⟩ := hb
  refine ⟨_, pw_and h1 k1, fun n E S σ H Hf ρ Q r p => h2 n E S σ H Hf ρ _ r ?_⟩
  unfold fAndT at p
  cases e : ga n E S with
  | stk => rw [e] at p; exact p
  | exc x S1 => rw [e] at p; exact p
  | ok d S1 =>
    rw [e] at p
    intro H' Hf' ρ' h1 h2
    cases d with
    | false => exact p H' Hf' ρ' h1 h2
    | true =>
      have p : PostT X.K W σ H Hf ρ Q (gb n E S1) := p
      refine k2 n E S1 σ H' Hf' ρ' Q (r.step h1 h2) ?_
      cases e2 : gb n E S1 with
      | stk => rw [e2] at p; exact p
      | exc x S2 => rw [e2] at p; exact PostX.tr h2 p
      | ok d S2 => rw [e2] at p; exact fun H2 Hf2 ρ2 a1 a2 => p H2 Hf2 ρ2 a1 (h2.trans a2)
theorem w_or (ha : QT X B W a ga) (hb : QW X B W (.BoolOp .Or (b :: rest) pos) gb) : QW X B W (.BoolOp .Or (a :: b :: rest) pos) (fOrT ga gb) := by
  obtain ⟨t, h1, h2⟩ := ha
  obtain ⟨u, k1, k2⟩ := hb
  refine ⟨_, pw_or h1 k1, fun n E S σ H Hf ρ Q r p => h2 n E S σ H Hf ρ _ r ?_⟩
  unfold fOrT at p
  cases e : ga n E S with
  | stk => rw [e] at p; exact p
  | exc x S1 => rw [e] at p; exact p
  | ok d S1 =>
    rw [e] at p
    intro H' Hf' ρ' h1 h2
    cases d with
    | true => exact p H' Hf' ρ' h1 h2
    | false =>
      have p : PostT X.K W σ H Hf ρ Q (gb n E S1) := p
      refine k2 n E S1 σ H' Hf' ρ' Q (r.step h1 h2) ?_
      cases e2 : gb n E S1 with
      | stk => rw [e2] at p; exact p
      | exc x S2 => rw [e2] at p; exact PostX.tr h2 p
      | ok d S2 => rw [e2] at p; exact fun H2 Hf2 ρ2 a1 a2 => p H2 Hf2 ρ2 a1 (h2.trans a2)
theorem t_w (h : QW X B W a ga) : QT X B W a ga := by
  obtain ⟨t, h1, h2⟩ := h
  exact ⟨_, h1.pt, h2⟩

/-! ### and, or, not as values; a if t else b; chains -/
def fAnd (f g : FE) : FE := fun n E S => (f n E S).bind fun d S1 => match d with
  | .bl true => g n E S1
  | .bl false => .ok (.bl false) S1
  | _ => .stk
def fOr (f g : FE) : FE := fun n E S => (f n E S).bind fun d S1 => match d with
  | .bl true => .ok (.bl true) S1
  | .bl false => g n E S1
  | _ => .stk
def fNot (f : FE) : FE := fun n E S => (f n E S).bind fun d S1 => match d with
  | .bl b => .ok (.bl (!b)) S1
  | _ => .stk
theorem PostE.tr {K : PySem.W.Frag} {σ : L2.St} {H Hf H' Hf' : Hp} {ρ ρ' : List Addr} {Q : VK} {r : Res D} (t : Tr H Hf ρ H' Hf' ρ') (p : PostE K W σ H Hf ρ Q r) : PostE K W σ H' Hf' ρ' Q r := by
  cases r with
  | stk => exact p
  | exc x S2 => exact PostX.tr t p
  | ok d S2 => exact fun v H2 Hf2 ρ2 a1 a2 a3 => p v H2 Hf2 ρ2 a1 (t.trans a2) a3
theorem PostR.tr {K : PySem.W.Frag} {σ : L2.St} {H Hf H' Hf' : Hp} {ρ ρ' : List Addr} {Q : VK} {r : Res D} (t : Tr H Hf ρ H' Hf' ρ') (p : PostR K W σ H Hf ρ Q r) : PostR K W σ H' Hf' ρ' Q r := by
  cases r with
  | stk => exact p
  | exc x S2 => exact PostX.tr t p
  | ok d S2 => exact fun v H2 Hf2 ρ2 a1 a2 a3 => p v H2 Hf2 ρ2 a1 (t.trans a2) a3
theorem q_one {op : BoolOp} (h : QE X B W a fa) : QE X B W (.BoolOp op [a] pos) fa := by
  obtain ⟨t, h1, h2⟩ := h
  exact ⟨_, pe_one h1, h2⟩
theorem q_and (ha : QE X B W a fa) (hb : QE X B W (.BoolOp .And (b :: rest) pos) fb) : QE X B W (.BoolOp .And (a :: b :: rest) pos) (fAnd fa fb) := by
  obtain ⟨t, h1, h2⟩ := ha
  obtain ⟨u, k1, k2⟩ := hb
  refine ⟨_, pe_and h1 k1, fun n E S σ H Hf ρ Q r p => h2 n E S σ H Hf ρ _ r ?_⟩
  unfold fAnd at p
  cases e : fa n E S with
  | stk => rw [e] at p; exact p
  | exc x S1 => rw [e] at p; exact p
  | ok d S1 =>
    rw [e] at p
    intro v H' Hf' ρ' h1 h2 h3
    cases d <;> try exact p.elim
    rename_i z
    refine ⟨z, h3, ?_⟩
    cases z with
    | false => exact p _ H' Hf' ρ' h1 h2 rfl
    | true => exact k2 n E S1 σ H' Hf' ρ' Q (r.step h1 h2) (PostE.tr h2 p)
theorem q_or (ha : QE X B W a fa) (hb : QE X B W (.BoolOp .Or (b :: rest) pos) fb) : QE X B W (.BoolOp .Or (a :: b :: rest) pos) (fOr fa fb) := by
  obtain ⟨t, h1, h2⟩ := ha
  obtain ⟨u, k1, k2⟩ := hb
  refine ⟨_, pe_or h1 k1, fun n E S σ H Hf ρ Q r p => h2 n E S σ H Hf ρ _ r ?_⟩
  unfold fOr at p
  cases e : fa n E S with
  | stk => rw [e] at p; exact p
  | exc x S1 => rw [e] at p; exact p
  | ok d S1 =>
    rw [e] at p
    intro v H' Hf' ρ' h1 h2 h3
    cases d <;> try exact p.elim
    rename_i z
    refine ⟨z, h3, ?_⟩
    cases z with
    | true => exact p _ H' Hf' ρ' h1 h2 rfl
    | false => exact k2 n E S1 σ H' Hf' ρ' Q (r.step h1 h2) (PostE.tr h2 p)
theorem q_not (ha : QE X B W a fa) : QE X B W (.UnaryOp .Not a pos) (fNot fa) := by
  obtain ⟨t, h1, h2⟩ := ha
  refine ⟨_, pe_not h1, fun n E S σ H Hf ρ Q r p => h2 n E S σ H Hf ρ _ r ?_⟩
  unfold fNot at p
  cases e : fa n E S with
  | stk => rw [e] at p; exact p
  | exc x S1 => rw [e] at p; exact p
  | ok d S1 =>
    rw [e] at p
    intro v H' Hf' ρ' h1 h2 h3
    cases d <;> try exact p.elim
    rename_i z
    exact ⟨z, h3, p _ H' Hf' ρ' h1 h2 rfl⟩
def fIf (c : FT) (f g : FE) : FE := fun n E S => (c n E S).bind fun b S1 => match b with
  | true => f n E S1
  | false => g n E S1
theorem q_if {t : Expr} {gt : FT} (hc : QT X B W t gt) (ha : QE X B W a fa) (hb : QE X B W b fb) : QE X B W (.IfExp t a b pos) (fIf gt fa fb) := by
  obtain ⟨tt, c1, c2⟩ := hc
  obtain ⟨ta, a1, a2⟩ := ha
  obtain ⟨tb, b1, b2⟩ := hb
  refine ⟨_, pe_ifExp c1 a1 b1, fun n E S σ H Hf ρ Q r p => c2 n E S σ H Hf ρ _ r ?_⟩
  unfold fIf at p
  cases e : gt n E S with
  | stk => rw [e] at p; exact p
  | exc x S1 => rw [e] at p; exact p
  | ok d S1 =>
    rw [e] at p
    intro H' Hf' ρ' h1 h2
    cases d with
    | true => exact a2 n E S1 σ H' Hf' ρ' Q (r.step h1 h2) (PostE.tr h2 p)
    | false => exact b2 n E S1 σ H' Hf' ρ' Q (r.step h1 h2) (PostE.tr h2 p)
/-- a op b op' c, of ints alone -/
def fChain (g g' : D → D → Option D) (fa fb fc : FE) : FE := fun n E S => (fa n E S).bind fun a S1 => (fb n E S1).bind fun b S2 => match g a b with
  | some (.bl true) => (fc n E S2).bind fun c S3 => match g' b c with
    | some d => .ok d S3
    | none => .stk
  | some (.bl false) => .ok (.bl false) S2
  | _ => .stk
theorem q_chain_ {op op' : CmpOp} {g g' : D → D → Option D} {r r' : R2} {ta tb tc : TE}
    (h2 : ∀ a b x y H Hf ρ S Q d, HR X.K H Hf ρ S → Dw X.K H Hf ρ a x → Dw X.K H Hf ρ b y → g a b = some d →
      (∀ v H' Hf' ρ', HR X.K H' Hf' ρ' S → Tr H Hf ρ H' Hf' ρ' → Dt X.K Hf' ρ' d v → Q v H') → r x y H Q)
    (h2' : ∀ a b x y H Hf ρ S Q d, HR X.K H Hf ρ S → Dw X.K H Hf ρ a x → Dw X.K H Hf ρ b y → g' a b = some d →
      (∀ v H' Hf' ρ', HR X.K H' Hf' ρ' S → Tr H Hf ρ H' Hf' ρ' → Dt X.K Hf' ρ' d v → Q v H') → r' x y H Q)
    (a2 : ∀ n E S σ H Hf ρ Q, Rel X.K B E S σ H Hf ρ → PostR X.K W σ H Hf ρ Q (fa n E S) → ta σ H Q)
    (b2 : ∀ n E S σ H Hf ρ Q, Rel X.K B E S σ H Hf ρ → PostR X.K W σ H Hf ρ Q (fb n E S) → tb σ H Q)
    (c2 : ∀ n E S σ H Hf ρ Q, Rel X.K B E S σ H Hf ρ → PostR X.K W σ H Hf ρ Q (fc n E S) → tc σ H Q)
    (n : Nat) (E : Env) (S : Store) (σ : L2.St) (H Hf : Hp) (ρ : List Addr) (Q : VK) (R : Rel X.K B E S σ H Hf ρ) (p : PostE X.K W σ H Hf ρ Q (fChain g g' fa fb fc n E S)) : tChain r r' ta tb tc σ H Q := by
  refine a2 n E S σ H Hf ρ _ R ?_
  unfold fChain at p
  cases ea : fa n E S with
  | stk => rw [ea] at p; exact p
  | exc x S1 => rw [ea] at p; exact p
  | ok d1 S1 =>
    rw [ea] at p
    intro x H1 Hf1 ρ1 hr1 t1 w1
    refine b2 n E S1 σ H1 Hf1 ρ1 _ (R.step hr1 t1) ?_
    have p : PostE X.K W σ H Hf ρ Q ((fb n E S1).bind fun b S2 => match g d1 b with
      | some (.bl true) => (fc n E S2).bind fun c S3 => match g' b c with
        | some d => .ok d S3
        | none => .stk
      | some (.bl false) => .ok (.bl false) S2
      | _ => .stk) := p
    cases eb : fb n E S1 with
    | stk => rw [eb] at p; exact p
    | exc x S2 => rw [eb] at p; exact PostX.tr t1 p
    | ok d2 S2 =>
      rw [eb] at p
      intro y H2 Hf2 ρ2 hr2 t2 w2
      have p : PostE X.K W σ H Hf ρ Q (match g d1 d2 with
        | some (.bl true) => (fc n E S2).bind fun c S3 => match g' d2 c with
          | some d => .ok d S3
          | none => .stk
        | some (.bl false) => .ok (.bl false) S2
        | _ => .stk) := p
      cases eg : g d1 d2 with
      | none => rw [eg] at p; exact p.elim
      | some d =>
        rw [eg] at p
        cases d <;> try exact p.elim
        rename_i k
        refine h2 d1 d2 x y H2 Hf2 ρ2 S2 _ _ hr2 (w1.mono t2 hr1) w2 eg fun v H' Hf' ρ' h1 h2 h3 => ?_
        refine ⟨k, h3, ?_⟩
        cases k with
        | false => exact p _ H' Hf' ρ' h1 ((t1.trans t2).trans h2) rfl
        | true =>
          have p : PostE X.K W σ H Hf ρ Q ((fc n E S2).bind fun c S3 => match g' d2 c with
            | some d => .ok d S3
            | none => .stk) := p
          refine c2 n E S2 σ H' Hf' ρ' _ (((R.step hr1 t1).step hr2 t2).step h1 h2) ?_
          cases ec : fc n E S2 with
          | stk => rw [ec] at p; exact p
          | exc x S3 => rw [ec] at p; exact PostX.tr ((t1.trans t2).trans h2) p
          | ok d3 S3 =>
            rw [ec] at p
            intro z H3 Hf3 ρ3 hr3 t3 w3
            have p : PostE X.K W σ H Hf ρ Q (match g' d2 d3 with | some d => .ok d S3 | none => .stk) := p
            cases eg' : g' d2 d3 with
            | none => rw [eg'] at p; exact p.elim
            | some d =>
              rw [eg'] at p
              exact h2' d2 d3 y z H3 Hf3 ρ3 S3 Q d hr3 ((w2.mono h2 hr2).mono t3 h1) w3 eg' fun v H4 Hf4 ρ4 k1 k2 k3 => p v H4 Hf4 ρ4 k1 ((((t1.trans t2).trans h2).trans t3).trans k2) k3
theorem q_chain {op op' : CmpOp} {g g' : D → D → Option D} (ho : OpQ X (compareOp op) g) (ho' : OpQ X (compareOp op') g') (ha : QR X B W a fa) (hb : QR X B W b fb) (hc : QR X B W c fc)
    (hm : lastMarks [op, op'] [b, c] = false) : QE X B W (.Compare a [op, op'] [b, c] pos) (fChain g g' fa fb fc) := by
  obtain ⟨r, h1, h2⟩ := ho
  obtain ⟨r', h1', h2'⟩ := ho'
  obtain ⟨ta, a1, a2⟩ := ha
  obtain ⟨tb, b1, b2⟩ := hb
  obtain ⟨tc, c1, c2⟩ := hc
  exact ⟨_, pe_chain h1 h1' a1 b1 c1 hm, q_chain_ (op := op) (op' := op') h2 h2' a2 b2 c2⟩
theorem t_chain {op op' : CmpOp} {g g' : D → D → Option D} (ho : OpQ X (compareOp op) g) (ho' : OpQ X (compareOp op') g') (ha : QR X B W a fa) (hb : QR X B W b fb) (hc : QR X B W c fc)
    (hm : lastMarks [op, op'] [b, c] = false) : QT X B W (.Compare a [op, op'] [b, c] pos) (fBool (fChain g g' fa fb fc)) := by
  obtain ⟨r, h1, h2⟩ := ho
  obtain ⟨r', h1', h2'⟩ := ho'
  obtain ⟨ta, a1, a2⟩ := ha
  obtain ⟨tb, b1, b2⟩ := hb
  obtain ⟨tc, c1, c2⟩ := hc
  exact ⟨_, pt_chain h1 h1' a1 b1 c1 hm, fun n E S σ H Hf ρ Q R p => q_chain_ (op := op) (op' := op') h2 h2' a2 b2 c2 n E S σ H Hf ρ _ R (PostE.ofBool p)⟩
end
end DL

end

section
set_option autoImplicit false
set_option autoImplicit false
namespace DL
open PySem PySem.Spec PyProof.Rows L2

/-! ### arguments -/
def fNil : FA := fun _ _ S => .ok [] S
def fCons (f : FE) (g : FA) : FA := fun n E S => (f n E S).bind fun d S1 => (g n E S1).bind fun ds S2 => .ok (d :: ds) S2
section
variable {X : Cx} {B : Gr} {W : WX} {pos : Pos} {e : Expr} {es : List Expr} {f : FE} {g : FA}
theorem a_nil : QA X B W [] fNil := ⟨_, pa_nil, fun n E S σ H Hf ρ Q r p => p _ _ _ _ r.hr (Tr.refl _ _ _) rfl⟩
theorem ar_nil : QAr X B W [] fNil := ⟨_, pa_nil, fun n E S σ H Hf ρ Q r p => p _ _ _ _ r.hr (Tr.refl _ _ _) rfl⟩
theorem a_cons (ha : QE X B W e f) (hr : QA X B W es g) (hs : starEach (e :: es) X.env = (false, eval e X.env) :: starEach es X.env) : QA X B W (e :: es) (fCons f g) := by
  obtain ⟨t, h1, h2⟩ := ha
  obtain ⟨u, k1, k2⟩ := hr
  refine ⟨_, pa_cons h1 k1 hs, fun n E S σ H Hf ρ Q r p => h2 n E S σ H Hf ρ _ r ?_⟩
  unfold fCons at p
  cases e1 : f n E S with
  | stk => rw [e1] at p; exact p
  | exc x S1 => rw [e1] at p; exact p
  | ok d S1 =>
    rw [e1] at p
    intro v H1 Hf1 ρ1 hr1 t1 w1
    refine k2 n E S1 σ H1 Hf1 ρ1 _ (r.step hr1 t1) ?_
    have p : PostA X.K W σ H Hf ρ Q ((g n E S1).bind fun ds S2 => .ok (d :: ds) S2) := p
    cases e2 : g n E S1 with
    | stk => rw [e2] at p; exact p
    | exc x S2 => rw [e2] at p; exact PostX.tr t1 p
    | ok ds S2 =>
      rw [e2] at p
      intro vs H2 Hf2 ρ2 hr2 t2 w2
      exact p _ _ _ _ hr2 (t1.trans t2) ⟨v, vs, rfl, w1.mono t2.hf t2.pre, w2⟩
theorem ar_cons (ha : QR X B W e f) (hr : QAr X B W es g) (hs : starEach (e :: es) X.env = (false, eval e X.env) :: starEach es X.env) : QAr X B W (e :: es) (fCons f g) := by
  obtain ⟨t, h1, h2⟩ := ha
  obtain ⟨u, k1, k2⟩ := hr
  refine ⟨_, pa_cons h1 k1 hs, fun n E S σ H Hf ρ Q r p => h2 n E S σ H Hf ρ _ r ?_⟩
  unfold fCons at p
  cases e1 : f n E S with
  | stk => rw [e1] at p; exact p
  | exc x S1 => rw [e1] at p; exact p
  | ok d S1 =>
    rw [e1] at p
    intro v H1 Hf1 ρ1 hr1 t1 w1
    refine k2 n E S1 σ H1 Hf1 ρ1 _ (r.step hr1 t1) ?_
    have p : PostAr X.K W σ H Hf ρ Q ((g n E S1).bind fun ds S2 => .ok (d :: ds) S2) := p
    cases e2 : g n E S1 with
    | stk => rw [e2] at p; exact p
    | exc x S2 => rw [e2] at p; exact PostX.tr t1 p
    | ok ds S2 =>
      rw [e2] at p
      intro vs H2 Hf2 ρ2 hr2 t2 w2
      exact p _ _ _ _ hr2 (t1.trans t2) ⟨v, vs, rfl, w1.mono t2 hr1, w2⟩
end

/-! ### displays -/
def fTup (g : FA) : FE := fun n E S => (g n E S).bind fun ds S1 => if ds.length ≤ 1000 then .ok (.tup ds) S1 else .stk
def fLst (g : FA) : FE := fun n E S => (g n E S).bind fun ds S1 => if ds.length ≤ 1000 then .ok (.lst ds) S1 else .stk
theorem le_line {n : Nat} (h : n ≤ 1000) : n ≤ sizeLine := Nat.le_trans h (by decide)
section
variable {X : Cx} {B : Gr} {W : WX} {pos : Pos} {es : List Expr} {g : FA}
theorem q_tup {k : Nat} (h : QA X B W es g) : QE X B W (.Tuple es k pos) (fTup g) := by
  obtain ⟨t, h1, h2⟩ := h
  refine ⟨_, pe_tup h1, fun n E S σ H Hf ρ Q r p => h2 n E S σ H Hf ρ _ r ?_⟩
  unfold fTup at p
  cases e1 : g n E S with
  | stk => rw [e1] at p; exact p
  | exc x S1 => rw [e1] at p; exact p
  | ok ds S1 =>
    rw [e1] at p
    have p : PostE X.K W σ H Hf ρ Q (if ds.length ≤ 1000 then .ok (.tup ds) S1 else .stk) := p
    by_cases hl : ds.length ≤ 1000
    · rw [if_pos hl] at p
      intro vs H1 Hf1 ρ1 hr1 t1 w1
      refine ⟨le_line (by rw [← w1.length]; exact hl), fun q hq => ?_⟩
      exact new_ans (d := .tup ds) hr1 hq (fun Hf' ex hq' => ⟨q, _, rfl, SqT.of hq', w1.mono ex (Pre.refl _)⟩) fun v H' Hf' ρ' a b c => p v H' Hf' ρ' a (t1.trans b) c
    · rw [if_neg hl] at p; exact p.elim
theorem f_lst (h : QA X B W es g) : QF X B W (.List es pos) (fLst g) := by
  obtain ⟨t, h1, h2⟩ := h
  refine ⟨_, pe_lst h1, fun n E S σ H Hf ρ Q r p => h2 n E S σ H Hf ρ _ r ?_⟩
  unfold fLst at p
  cases e1 : g n E S with
  | stk => rw [e1] at p; exact p
  | exc x S1 => rw [e1] at p; exact p
  | ok ds S1 =>
    rw [e1] at p
    have p : PostF X.K W σ H Hf ρ Q (if ds.length ≤ 1000 then .ok (.lst ds) S1 else .stk) := p
    by_cases hl : ds.length ≤ 1000
    · rw [if_pos hl] at p
      intro vs H1 Hf1 ρ1 hr1 t1 w1
      refine ⟨le_line (by rw [← w1.length]; exact hl), fun q hq => ?_⟩
      have nH : H q = none := by
        cases z : H q with
        | none => rfl
        | some o => exact absurd hq (t1.alive q (by rw [z]; simp))
      exact p q _ Hf1 ρ1 (hr1.own (hr1.hnone hq) (hr1.notin hq)) (t1.trans (Tr.own hq)) nH (hr1.hnone hq) (hr1.notin hq) ⟨vs, upd_same, w1⟩
    · rw [if_neg hl] at p; exact p.elim
end

/-! ### calls of defs -/
def PostM (K : PySem.W.Frag) (H Hf : Hp) (ρ : List Addr) (Q : VK) (Ex : XK) : Res D → Prop
  | .ok d S' => ∀ v H' Hf' ρ', HR K H' Hf' ρ' S' → Tr H Hf ρ H' Hf' ρ' → Dt K Hf' ρ' d v → Q v H'
  | .exc x S' => ∀ c od H' Hf' ρ', HR K H' Hf' ρ' S' → Tr H Hf ρ H' Hf' ρ' → ExcAt K Hf' ρ' H' x c od → Ex c od H'
  | .stk => False
/-- a def's promise, by what it makes of data -/
def spD (K : PySem.W.Frag) (np : Nat) (m : MF) : Sp := fun vs H Q Ex => ∃ ds S Hf ρ, ds.length = np ∧ HR K H Hf ρ S ∧ Dts K Hf ρ ds vs ∧ PostM K H Hf ρ Q Ex (m ds S)
/-- the def that stands at f makes m of its arguments -/
structure FnD (P : Program) (w : World) (K : PySem.W.Frag) (mg : Str → Option Value) (base : Heap) (k : Nat) (f : Addr) (np : Nat) (m : MF) : Prop where
  ex : ∃ fd ps, ps.length = np ∧ FnOk P w K mg base (L2.CX P w) k f fd ps (spD K np m) ∧ PySem.W.keepIn K (.ref f) = true ∧ Binds K fd ps []
/-- the module's name x -/
structure Callee (X : Cx) (x : Str) (k : Nat) (np : Nat) (m : MF) : Prop where
  gl : Gl X x
  db : (x == ("__debug__" : Str)) = false
  ex : ∃ f, X.mg x = some (.ref f) ∧ FnD X.prog X.w X.K X.mg X.base k f np m
def fCall (m : MF) (g : FA) : FE := fun n E S => (g n E S).bind fun ds S1 => m ds S1
section
variable {X : Cx} {B : Gr} {W : WX} {pos p1 : Pos} {e : Expr} {es : List Expr} {g : FA} {x : Str} {k np : Nat} {m : MF}
theorem q_call (c : Callee X x k np m) (hr : Room k X.A) (tk : Takes X W) (ha : QA X B W (e :: es) g) (hl : ∀ n E S ds S', g n E S = .ok ds S' → ds.length = np)
    (he : starEach (e :: es) X.env = (false, eval e X.env) :: starEach es X.env) (hpl : (backTo pos (starEach es X.env)).any (·.1) = false) : QE X B W (.Call (.Name x p1) (e :: es) [] pos) (fCall m g) := by
  obtain ⟨f, hm, ⟨fd, ps, hps, F, hk, hb⟩⟩ := c.ex
  obtain ⟨t, h1, h2⟩ := ha
  refine ⟨_, pe_callS F hr c.gl hm hk hb (fun σ => passAt tk σ) h1 c.db he hpl, fun n E S σ H Hf ρ Q r p => h2 n E S σ H Hf ρ _ r ?_⟩
  unfold fCall at p
  cases e1 : g n E S with
  | stk => rw [e1] at p; exact p
  | exc y S1 => rw [e1] at p; exact p
  | ok ds S1 =>
    rw [e1] at p
    intro vs H1 Hf1 ρ1 hr1 t1 w1
    refine ⟨ds, S1, Hf1, ρ1, hl n E S ds S1 e1, hr1, w1, ?_⟩
    have p : PostE X.K W σ H Hf ρ Q (m ds S1) := p
    cases e2 : m ds S1 with
    | stk => rw [e2] at p; exact p
    | exc y S2 => rw [e2] at p; exact fun c od H' Hf' ρ' a b d => p c od H' Hf' ρ' a (t1.trans b) d
    | ok d S2 => rw [e2] at p; exact fun v H' Hf' ρ' a b d => p v H' Hf' ρ' a (t1.trans b) d
end
/-- how many a written list of arguments gives -/
structure Len (g : FA) (k : Nat) : Prop where
  len : ∀ n E S ds S', g n E S = .ok ds S' → ds.length = k
theorem len_nil : Len fNil 0 := ⟨fun n E S ds S' h => by cases h; rfl⟩
theorem len_cons {f : FE} {g : FA} {k : Nat} (h : Len g k) : Len (fCons f g) (k + 1) := ⟨fun n E S ds S' e => by
  unfold fCons at e
  cases e1 : f n E S with
  | stk => rw [e1] at e; cases e
  | exc y S1 => rw [e1] at e; cases e
  | ok d S1 =>
    rw [e1] at e
    have e : ((g n E S1).bind fun ds S2 => Res.ok (d :: ds) S2) = .ok ds S' := e
    cases e2 : g n E S1 with
    | stk => rw [e2] at e; cases e
    | exc y S1 => rw [e2] at e; cases e
    | ok es S2 =>
      rw [e2] at e
      cases e
      rw [List.length_cons, h.len _ _ _ _ _ e2]⟩

/-! ### calls of what is built in -/
def CallQ (X : Cx) (f : Value) (g : List D → Option D) : Prop := ∃ r, CallR X f r ∧
  ∀ ds vs H Hf ρ S Q d, HR X.K H Hf ρ S → Dws X.K H Hf ρ ds vs → g ds = some d →
    (∀ v H' Hf' ρ', HR X.K H' Hf' ρ' S → Tr H Hf ρ H' Hf' ρ' → Dt X.K Hf' ρ' d v → Q v H') → r vs H Q
def fCB (m : List D → Option D) (g : FA) : FE := fun n E S => (g n E S).bind fun ds S1 => match m ds with
  | some d => .ok d S1
  | none => .stk
/-- the built-in name x -/
structure Blt (X : Cx) (x : Str) : Prop where
  gl : Gl X x
  free : X.mg x = none
section
variable {X : Cx} {B : Gr} {W : WX} {pos p1 : Pos} {e : Expr} {es : List Expr} {g : FA} {x : Str} {m : List D → Option D}
theorem cb_post {r : List V → Hp → VK → Prop} {t : TA} (h2 : ∀ ds vs H Hf ρ S Q d, HR X.K H Hf ρ S → Dws X.K H Hf ρ ds vs → m ds = some d →
    (∀ v H' Hf' ρ', HR X.K H' Hf' ρ' S → Tr H Hf ρ H' Hf' ρ' → Dt X.K Hf' ρ' d v → Q v H') → r vs H Q)
    (k2 : ∀ n E S σ H Hf ρ Q, Rel X.K B E S σ H Hf ρ → PostAr X.K W σ H Hf ρ Q (g n E S) → t σ H Q)
    (n : Nat) (E : Env) (S : Store) (σ : L2.St) (H Hf : Hp) (ρ : List Addr) (Q : VK) (R : Rel X.K B E S σ H Hf ρ) (p : PostE X.K W σ H Hf ρ Q (fCB m g n E S)) : tCB r t σ H Q := by
  refine k2 n E S σ H Hf ρ _ R ?_
  unfold fCB at p
  cases e1 : g n E S with
  | stk => rw [e1] at p; exact p
  | exc y S1 => rw [e1] at p; exact p
  | ok ds S1 =>
    rw [e1] at p
    intro vs H1 Hf1 ρ1 hr1 t1 w1
    have p : PostE X.K W σ H Hf ρ Q (match m ds with | some d => .ok d S1 | none => .stk) := p
    cases e2 : m ds with
    | none => rw [e2] at p; exact p.elim
    | some d =>
      rw [e2] at p
      exact h2 ds vs H1 Hf1 ρ1 S1 Q d hr1 w1 e2 fun v H' Hf' ρ' a b c => p v H' Hf' ρ' a (t1.trans b) c
theorem q_cb {id : String} (hc : CallQ X (.builtin id) m) (hb : Blt X x) (hv : bootBuiltins x = some (.builtin id)) (hn : x ≠ "__name__") (hdb : (x == ("__debug__" : Str)) = false) (ha : QAr X B W (e :: es) g)
    (he : starEach (e :: es) X.env = (false, eval e X.env) :: starEach es X.env) (hpl : (backTo pos (starEach es X.env)).any (·.1) = false) : QE X B W (.Call (.Name x p1) (e :: es) [] pos) (fCB m g) := by
  obtain ⟨r, h1, h2⟩ := hc
  obtain ⟨t, k1, k2⟩ := ha
  exact ⟨_, pe_callB h1 hb.gl hb.free hv k1 hn hdb he hpl, cb_post h2 k2⟩
theorem q_ct {T : String} (hc : CallQ X (.type T) m) (hb : Blt X x) (hv : bootBuiltins x = some (.type T)) (hn : x ≠ "__name__") (hdb : (x == ("__debug__" : Str)) = false) (ha : QAr X B W (e :: es) g)
    (he : starEach (e :: es) X.env = (false, eval e X.env) :: starEach es X.env) (hpl : (backTo pos (starEach es X.env)).any (·.1) = false) : QE X B W (.Call (.Name x p1) (e :: es) [] pos) (fCB m g) := by
  obtain ⟨r, h1, h2⟩ := hc
  obtain ⟨t, k1, k2⟩ := ha
  exact ⟨_, pe_callTy h1 hb.gl hb.free hv k1 hn hdb he hpl, cb_post h2 k2⟩
/-- a type's name as a value -/
theorem q_ty {T : String} (hb : Blt X x) (hv : bootBuiltins x = some (.type T)) (hn : x ≠ "__name__") (hdb : (x == ("__debug__" : Str)) = false) : QE X B W (.Name x pos) (fC (.ty T)) :=
  ⟨_, pe_bltn (v := .ty T) hb.gl hb.free hv rfl hn hdb, fun n E S σ H Hf ρ Q r p => p _ _ _ _ r.hr (Tr.refl _ _ _) rfl⟩
end

/-! ### the built-ins -/
section
variable {K : PySem.W.Frag} {H Hf : Hp} {ρ : List Addr} {vs : List V} {a b : D}
theorem dws1 (h : Dws K H Hf ρ [a] vs) : ∃ x, vs = [x] ∧ Dw K H Hf ρ a x := by
  obtain ⟨v, r, rfl, h1, h2⟩ := h
  cases h2
  exact ⟨v, rfl, h1⟩
theorem dws2 (h : Dws K H Hf ρ [a, b] vs) : ∃ x y, vs = [x, y] ∧ Dw K H Hf ρ a x ∧ Dw K H Hf ρ b y := by
  obtain ⟨v, r, rfl, h1, h2⟩ := h
  obtain ⟨y, rfl, h3⟩ := dws1 h2
  exact ⟨v, y, rfl, h1, h3⟩
end
def gAbs : List D → Option D
  | [.int i] => some (.int (if i < 0 then -i else i))
  | _ => none
def gMax2 : List D → Option D
  | [.int i, .int j] => some (.int (if j > i then j else i))
  | _ => none
def gMin2 : List D → Option D
  | [.int i, .int j] => some (.int (if j < i then j else i))
  | _ => none
def gInt : List D → Option D
  | [.int i] => some (.int i)
  | [.bl b] => some (.int (if b then 1 else 0))
  | _ => none
def gLen : List D → Option D
  | [.lst l] => some (.int l.length)
  | [.tup l] => some (.int l.length)
  | [.str s] => if s.length ≤ sizeLine then some (.int s.length) else none
  | _ => none
def gSum : List D → Option D
  | [.lst l] => (ints? l).map fun ns => .int ns.sum
  | _ => none
def gAny : List D → Option D
  | [.lst l] => (bls? l).map fun ns => .bl (ns.any id)
  | _ => none
def gAll : List D → Option D
  | [.lst l] => (bls? l).map fun ns => .bl (ns.all id)
  | _ => none
/-- the least, the greatest of some ints -/
def minI : List Int → Int
  | [] => 0
  | [a] => a
  | a :: l => if a ≤ minI l then a else minI l
def maxI : List Int → Int
  | [] => 0
  | [a] => a
  | a :: l => if maxI l ≤ a then a else maxI l
theorem minI_spec : ∀ l : List Int, l ≠ [] → minI l ∈ l ∧ ∀ y ∈ l, minI l ≤ y
  | [], h => absurd rfl h
  | [a], _ => by simp [minI]
  | a :: b :: l, _ => by
    obtain ⟨h1, h2⟩ := minI_spec (b :: l) (by simp)
    by_cases z : a ≤ minI (b :: l)
    · have e : minI (a :: b :: l) = a := by unfold minI; rw [if_pos z]
      rw [e]
      refine ⟨by simp, fun y hy => ?_⟩
      rcases List.mem_cons.mp hy with rfl | hy
      · exact Int.le_refl _
      · exact Int.le_trans z (h2 y hy)
    · have e : minI (a :: b :: l) = minI (b :: l) := by rw [minI]; rw [if_neg z]; simp
      rw [e]
      refine ⟨List.mem_cons_of_mem _ h1, fun y hy => ?_⟩
      rcases List.mem_cons.mp hy with rfl | hy
      · omega
      · exact h2 y hy
theorem maxI_spec : ∀ l : List Int, l ≠ [] → maxI l ∈ l ∧ ∀ y ∈ l, y ≤ maxI l
  | [], h => absurd rfl h
  | [a], _ => by simp [maxI]
  | a :: b :: l, _ => by
    obtain ⟨h1, h2⟩ := maxI_spec (b :: l) (by simp)
    by_cases z : maxI (b :: l) ≤ a
    · have e : maxI (a :: b :: l) = a := by unfold maxI; rw [if_pos z]
      rw [e]
      refine ⟨by simp, fun y hy => ?_⟩
      rcases List.mem_cons.mp hy with rfl | hy
      · exact Int.le_refl _
      · exact Int.le_trans (h2 y hy) z
    · have e : maxI (a :: b :: l) = maxI (b :: l) := by rw [maxI]; rw [if_neg z]; simp
      rw [e]
      refine ⟨List.mem_cons_of_mem _ h1, fun y hy => ?_⟩
      rcases List.mem_cons.mp hy with rfl | hy
      · omega
      · exact h2 y hy
def gMin : List D → Option D
  | [.lst l] => match ints? l with
    | some (a :: ns) => some (.int (minI (a :: ns)))
    | _ => none
  | _ => none
def gMax : List D → Option D
  | [.lst l] => match ints? l with
    | some (a :: ns) => some (.int (maxI (a :: ns)))
    | _ => none
  | _ => none
/-- ints in order -/
def insI (a : Int) : List Int → List Int
  | [] => [a]
  | b :: l => if a ≤ b then a :: b :: l else b :: insI a l
def sortI : List Int → List Int
  | [] => []
  | a :: l => insI a (sortI l)
theorem insI_perm (a : Int) : ∀ l : List Int, (insI a l).Perm (a :: l)
  | [] => .refl _
  | b :: l => by
    unfold insI
    split
    · exact .refl _
    · exact ((insI_perm a l).cons b).trans (.swap a b l)
theorem sortI_perm : ∀ l : List Int, (sortI l).Perm l
  | [] => .refl _
  | a :: l => (insI_perm a (sortI l)).trans ((sortI_perm l).cons a)
theorem insI_sorted (a : Int) : ∀ l : List Int, l.Pairwise (· ≤ ·) → (insI a l).Pairwise (· ≤ ·)
  | [], _ => by simp [insI]
  | b :: l, h => by
    obtain ⟨h1, h2⟩ := List.pairwise_cons.mp h
    unfold insI
    split
    · rename_i z
      refine List.pairwise_cons.mpr ⟨fun y hy => ?_, h⟩
      rcases List.mem_cons.mp hy with rfl | hy
      · exact z
      · exact Int.le_trans z (h1 y hy)
    · rename_i z
      refine List.pairwise_cons.mpr ⟨fun y hy => ?_, insI_sorted a l h2⟩
      rcases List.mem_cons.mp ((insI_perm a l).mem_iff.mp hy) with rfl | hy
      · omega
      · exact h1 y hy
theorem sortI_sorted : ∀ l : List Int, (sortI l).Pairwise (· ≤ ·)
  | [] => .nil
  | a :: l => insI_sorted a _ (sortI_sorted l)
theorem sortI_eq {l m : List Int} (h : m.Perm l) (hs : m.Pairwise (· ≤ ·)) : m = sortI l :=
  List.Perm.eq_of_pairwise (fun _ _ _ _ a b => Int.le_antisymm a b) hs (sortI_sorted l) (h.trans (sortI_perm l).symm)
def gSorted : List D → Option D
  | [.lst l] => (ints? l).map fun ns => .lst ((sortI ns).map D.int)
  | _ => none
def gList : List D → Option D
  | [.lst l] => some (.lst l)
  | [.tup l] => some (.lst l)
  | [.scr l] => some (.lst (l.map D.int))
  | _ => none
def gTuple : List D → Option D
  | [.lst l] => some (.tup l)
  | [.tup l] => some (.tup l)
  | _ => none
section
variable {X : Cx}
theorem cq_abs : CallQ X (.builtin "abs") gAbs := by
  refine ⟨_, call_abs, fun ds vs H Hf ρ S Q d hr w e q => ?_⟩
  unfold gAbs at e
  split at e
  · rename_i i
    cases e
    obtain ⟨x, rfl, wa⟩ := dws1 w
    have wa : x = .int i := wa
    exact ⟨i, by rw [wa], q _ _ _ _ hr (Tr.refl _ _ _) rfl⟩
  · cases e
theorem cq_max2 (hc : X.calm = true) : CallQ X (.builtin "max") gMax2 := by
  refine ⟨_, call_max2 hc, fun ds vs H Hf ρ S Q d hr w e q => ?_⟩
  unfold gMax2 at e
  split at e
  · rename_i i j
    cases e
    obtain ⟨x, y, rfl, wa, wb⟩ := dws2 w
    have wa : x = .int i := wa
    have wb : y = .int j := wb
    exact ⟨i, j, by rw [wa, wb], q _ _ _ _ hr (Tr.refl _ _ _) rfl⟩
  · cases e
theorem cq_min2 (hc : X.calm = true) : CallQ X (.builtin "min") gMin2 := by
  refine ⟨_, call_min2 hc, fun ds vs H Hf ρ S Q d hr w e q => ?_⟩
  unfold gMin2 at e
  split at e
  · rename_i i j
    cases e
    obtain ⟨x, y, rfl, wa, wb⟩ := dws2 w
    have wa : x = .int i := wa
    have wb : y = .int j := wb
    exact ⟨i, j, by rw [wa, wb], q _ _ _ _ hr (Tr.refl _ _ _) rfl⟩
  · cases e
theorem cq_int : CallQ X (.type "int") gInt := by
  refine ⟨_, call_int1, fun ds vs H Hf ρ S Q d hr w e q => ?_⟩
  unfold gInt at e
  split at e
  · rename_i i
    cases e
    obtain ⟨x, rfl, wa⟩ := dws1 w
    have wa : x = .int i := wa
    exact .inl ⟨i, by rw [wa], q _ _ _ _ hr (Tr.refl _ _ _) rfl⟩
  · rename_i i
    cases e
    obtain ⟨x, rfl, wa⟩ := dws1 w
    have wa : x = .bl i := wa
    exact .inr ⟨i, by rw [wa], q _ _ _ _ hr (Tr.refl _ _ _) rfl⟩
  · cases e
theorem cq_len : CallQ X (.builtin "len") gLen := by
  refine ⟨_, call_len, fun ds vs H Hf ρ S Q d hr w e q => ?_⟩
  unfold gLen at e
  split at e
  · rename_i l
    cases e
    obtain ⟨x, rfl, wa⟩ := dws1 w
    obtain ⟨a, vs, rfl, _, h1, h2⟩ := wa
    exact ⟨_, l.length, rfl, .inl ⟨vs, SqL.of h1, h2.length⟩, q _ _ _ _ hr (Tr.refl _ _ _) rfl⟩
  · rename_i l
    cases e
    obtain ⟨x, rfl, wa⟩ := dws1 w
    obtain ⟨a, vs, rfl, h1, h2⟩ := (show Dt X.K Hf ρ (.tup l) x from wa)
    exact ⟨_, l.length, rfl, .inr ⟨vs, hr.sub.sqT h1, h2.length⟩, q _ _ _ _ hr (Tr.refl _ _ _) rfl⟩
  · rename_i s
    split at e
    · rename_i hc
      cases e
      obtain ⟨x, rfl, wa⟩ := dws1 w
      have wa : x = .str s := wa
      exact ⟨_, s.length, rfl, by rw [wa]; exact ⟨hc, rfl⟩, q _ _ _ _ hr (Tr.refl _ _ _) rfl⟩
    · cases e
  · cases e
theorem dw_ints {H Hf : Hp} {ρ : List Addr} {l : List D} {ns : List Int} {x : V} (w : Dw X.K H Hf ρ (.lst l) x) (h : ints? l = some ns) : ∃ a, x = .ref a ∧ SqL X.K H a (ns.map V.int) := by
  obtain ⟨a, vs, rfl, _, h1, h2⟩ := w
  rw [ints?_eq h] at h2
  rw [h2.ints] at h1
  exact ⟨a, rfl, SqL.of h1⟩
theorem cq_sum (hc : X.calm = true) : CallQ X (.builtin "sum") gSum := by
  refine ⟨_, cr_sum hc, fun ds vs H Hf ρ S Q d hr w e q => ?_⟩
  unfold gSum at e
  split at e
  · rename_i l
    simp only [Option.map_eq_some_iff] at e
    obtain ⟨ns, e1, rfl⟩ := e
    obtain ⟨x, rfl, wa⟩ := dws1 w
    obtain ⟨a, rfl, h⟩ := dw_ints wa e1
    exact ⟨a, ns, rfl, h, q _ _ _ _ hr (Tr.refl _ _ _) rfl⟩
  · cases e
theorem dw_bls {H Hf : Hp} {ρ : List Addr} {l : List D} {ns : List Bool} {x : V} (w : Dw X.K H Hf ρ (.lst l) x) (h : bls? l = some ns) : ∃ a, x = .ref a ∧ SqL X.K H a (ns.map V.bl) := by
  obtain ⟨a, vs, rfl, _, h1, h2⟩ := w
  rw [bls?_eq h] at h2
  rw [h2.bls] at h1
  exact ⟨a, rfl, SqL.of h1⟩
theorem cq_any (hc : X.calm = true) : CallQ X (.builtin "any") gAny := by
  refine ⟨_, cr_any hc, fun ds vs H Hf ρ S Q d hr w e q => ?_⟩
  unfold gAny at e
  split at e
  · rename_i l
    simp only [Option.map_eq_some_iff] at e
    obtain ⟨ns, e1, rfl⟩ := e
    obtain ⟨x, rfl, wa⟩ := dws1 w
    obtain ⟨a, rfl, h⟩ := dw_bls wa e1
    exact ⟨a, ns, rfl, h, q _ _ _ _ hr (Tr.refl _ _ _) rfl⟩
  · cases e
theorem cq_all (hc : X.calm = true) : CallQ X (.builtin "all") gAll := by
  refine ⟨_, cr_all hc, fun ds vs H Hf ρ S Q d hr w e q => ?_⟩
  unfold gAll at e
  split at e
  · rename_i l
    simp only [Option.map_eq_some_iff] at e
    obtain ⟨ns, e1, rfl⟩ := e
    obtain ⟨x, rfl, wa⟩ := dws1 w
    obtain ⟨a, rfl, h⟩ := dw_bls wa e1
    exact ⟨a, ns, rfl, h, q _ _ _ _ hr (Tr.refl _ _ _) rfl⟩
  · cases e
theorem cq_min (hc : X.calm = true) : CallQ X (.builtin "min") gMin := by
  refine ⟨_, cr_min hc, fun ds vs H Hf ρ S Q d hr w e q => ?_⟩
  unfold gMin at e
  split at e
  · rename_i l
    split at e
    · rename_i b ns e1
      cases e
      obtain ⟨x, rfl, wa⟩ := dws1 w
      obtain ⟨a, rfl, h⟩ := dw_ints wa e1
      refine ⟨a, _, rfl, h, by simp, fun m h1 h2 => ?_⟩
      obtain ⟨k1, k2⟩ := minI_spec (b :: ns) (by simp)
      rw [show m = minI (b :: ns) from Int.le_antisymm (h2 _ k1) (k2 _ h1)]
      exact q _ _ _ _ hr (Tr.refl _ _ _) rfl
    · cases e
  · cases e
theorem cq_max (hc : X.calm = true) : CallQ X (.builtin "max") gMax := by
  refine ⟨_, cr_max hc, fun ds vs H Hf ρ S Q d hr w e q => ?_⟩
  unfold gMax at e
  split at e
  · rename_i l
    split at e
    · rename_i b ns e1
      cases e
      obtain ⟨x, rfl, wa⟩ := dws1 w
      obtain ⟨a, rfl, h⟩ := dw_ints wa e1
      refine ⟨a, _, rfl, h, by simp, fun m h1 h2 => ?_⟩
      obtain ⟨k1, k2⟩ := maxI_spec (b :: ns) (by simp)
      rw [show m = maxI (b :: ns) from Int.le_antisymm (k2 _ h1) (h2 _ k1)]
      exact q _ _ _ _ hr (Tr.refl _ _ _) rfl
    · cases e
  · cases e
theorem cq_sorted : CallQ X (.builtin "sorted") gSorted := by
  refine ⟨_, cr_sortedI, fun ds vs H Hf ρ S Q d hr w e q => ?_⟩
  unfold gSorted at e
  split at e
  · rename_i l
    simp only [Option.map_eq_some_iff] at e
    obtain ⟨ns, e1, rfl⟩ := e
    obtain ⟨x, rfl, wa⟩ := dws1 w
    obtain ⟨a, rfl, h⟩ := dw_ints wa e1
    refine ⟨a, ns, rfl, h, fun ns' p hp hs hn => ?_⟩
    rw [sortI_eq hp hs]
    exact new_ans (d := .lst ((sortI ns).map D.int)) hr hn (fun Hf' ex hq => ⟨p, _, rfl, hq, Dts.ofInts _⟩) q
  · cases e
theorem cq_list : CallQ X (.type "list") gList := by
  refine ⟨_, call_list_of, fun ds vs H Hf ρ S Q d hr w e q => ?_⟩
  unfold gList at e
  split at e
  · rename_i l
    cases e
    obtain ⟨x, rfl, wa⟩ := dws1 w
    obtain ⟨a, vs, rfl, _, h1, h2⟩ := wa
    refine ⟨a, vs, rfl, .inl (SqL.of h1), fun p hp => ?_⟩
    exact new_ans (d := .lst l) hr hp (fun Hf' ex hq => ⟨p, _, rfl, hq, h2.mono ex (Pre.refl _)⟩) q
  · rename_i l
    cases e
    obtain ⟨x, rfl, wa⟩ := dws1 w
    obtain ⟨a, vs, rfl, h1, h2⟩ := (show Dt X.K Hf ρ (.tup l) x from wa)
    refine ⟨a, vs, rfl, .inr (hr.sub.sqT h1), fun p hp => ?_⟩
    exact new_ans (d := .lst l) hr hp (fun Hf' ex hq => ⟨p, _, rfl, hq, h2.mono ex (Pre.refl _)⟩) q
  · rename_i l
    cases e
    obtain ⟨x, rfl, wa⟩ := dws1 w
    obtain ⟨a, rfl, h1⟩ := (show Dt X.K Hf ρ (.scr l) x from wa)
    refine ⟨a, _, rfl, .inl (hr.sub.sqL h1), fun p hp => ?_⟩
    exact new_ans (d := .lst (l.map D.int)) hr hp (fun Hf' ex hq => ⟨p, _, rfl, hq, Dts.ofInts _⟩) q
  · cases e
theorem cq_tuple : CallQ X (.type "tuple") gTuple := by
  refine ⟨_, call_tuple_of, fun ds vs H Hf ρ S Q d hr w e q => ?_⟩
  unfold gTuple at e
  split at e
  · rename_i l
    cases e
    obtain ⟨x, rfl, wa⟩ := dws1 w
    obtain ⟨a, vs, rfl, _, h1, h2⟩ := wa
    refine ⟨a, vs, rfl, .inl ⟨SqL.of h1, fun p hp => ?_⟩⟩
    exact new_ans (d := .tup l) hr hp (fun Hf' ex hq => ⟨p, _, rfl, SqT.of hq, h2.mono ex (Pre.refl _)⟩) q
  · rename_i l
    cases e
    obtain ⟨x, rfl, wa⟩ := dws1 w
    obtain ⟨a, vs, rfl, h1, h2⟩ := (show Dt X.K Hf ρ (.tup l) x from wa)
    exact ⟨a, vs, rfl, .inr ⟨hr.sub.sqT h1, q _ _ _ _ hr (Tr.refl _ _ _) ⟨a, vs, rfl, h1, h2⟩⟩⟩
  · cases e
end
/-! ### isinstance with a built-in type -/
def tyName : D → Option String
  | .non => some "NoneType"
  | .bl _ => some "bool"
  | .int _ => some "int"
  | .str _ => some "str"
  | .tup _ => some "tuple"
  | .lst _ => some "list"
  | .dct _ => some "dict"
  | _ => none
/-- whether the type named a is one of the type named b -/
def isTy (a b : String) : Option Bool :=
  if b = "int" then some (a == "int" || a == "bool") else if b = "bool" then some (a == "bool") else if b = "str" then some (a == "str") else if b = "tuple" then some (a == "tuple") else if b = "list" then some (a == "list") else none
def gIsi : List D → Option D
  | [d, .ty b] => match tyName d with
    | some a => (isTy a b).map D.bl
    | none => none
  | _ => none
theorem kit_all : (["NoneType", "bool", "int", "str", "tuple", "list", "dict"].all fun a => ["int", "bool", "str", "tuple", "list"].all fun b => decide (kitB a b = isTy a b)) = true := by decide +kernel
theorem isTy_b {a b : String} {r : Bool} (h : isTy a b = some r) : b ∈ ["int", "bool", "str", "tuple", "list"] := by
  unfold isTy at h
  split at h
  · rename_i e; rw [e]; simp
  · split at h
    · rename_i e; rw [e]; simp
    · split at h
      · rename_i e; rw [e]; simp
      · split at h
        · rename_i e; rw [e]; simp
        · split at h
          · rename_i e; rw [e]; simp
          · cases h
theorem tyName_a {d : D} {a : String} (h : tyName d = some a) : a ∈ ["NoneType", "bool", "int", "str", "tuple", "list", "dict"] := by
  cases d <;> cases h <;> simp
theorem dw_ty {K : PySem.W.Frag} {H Hf : Hp} {ρ : List Addr} {S : Store} {d : D} {x : V} {a : String} (hr : HR K H Hf ρ S) (w : Dw K H Hf ρ d x) (h : tyName d = some a) : TyX K H x (.type a) := by
  cases d with
  | non => cases h; have w : x = .non := w; subst w; exact .base .non
  | bl b => cases h; have w : x = .bl b := w; subst w; exact .base (.bl b)
  | int b => cases h; have w : x = .int b := w; subst w; exact .base (.int b)
  | str b => cases h; have w : x = .str b := w; subst w; exact .base (.str b)
  | tup l =>
    cases h
    obtain ⟨p, vs, rfl, h1, _⟩ := (show Dt K Hf ρ (.tup l) x from w)
    rcases h1 with (h1 | ⟨o, h1⟩) | ⟨o, its, n, h1, h2, _⟩
    · exact .base (.tup (hr.sub _ _ h1))
    · exact .fTuple (hr.sub _ _ h1)
    · exact .kTuple h1 h2
  | lst l =>
    cases h
    obtain ⟨p, vs, rfl, _, h1, _⟩ := w
    exact .base (.lst h1)
  | dct l =>
    cases h
    obtain ⟨p, vs, rfl, _, h1, _⟩ := w
    exact .base (.dK h1)
  | ref l => cases h
  | hd l => cases h
  | scr l => cases h
  | ty l => cases h
theorem cq_isi {X : Cx} : CallQ X (.builtin "isinstance") gIsi := by
  refine ⟨_, call_isi, fun ds vs H Hf ρ S Q d hr w e q => ?_⟩
  unfold gIsi at e
  split at e
  · rename_i d0 b
    split at e
    · rename_i a ea
      simp only [Option.map_eq_some_iff] at e
      obtain ⟨r, e1, rfl⟩ := e
      obtain ⟨x, y, rfl, wa, wb⟩ := dws2 w
      have wb : y = .ty b := wb
      subst wb
      refine ⟨x, .ty b, .type a, .type b, r, rfl, .ty b, dw_ty hr wa ea, kit_ty ?_, q _ _ _ _ hr (Tr.refl _ _ _) rfl⟩
      have z := List.all_eq_true.mp (List.all_eq_true.mp kit_all a (tyName_a ea)) b (isTy_b e1)
      rw [of_decide_eq_true z]
      exact e1
    · cases e
  · cases e

/-! ### subscripts, slices -/
def IxQ (X : Cx) (g : D → D → Option D) : Prop := ∃ r, IxR X r ∧
  ∀ a b x y H Hf ρ S Q d, HR X.K H Hf ρ S → Dw X.K H Hf ρ a x → Dw X.K H Hf ρ b y → g a b = some d →
    (∀ v H' Hf' ρ', HR X.K H' Hf' ρ' S → Tr H Hf ρ H' Hf' ρ' → Dt X.K Hf' ρ' d v → Q v H') → r x y H Q
def gIx : D → D → Option D
  | .lst l, .int i => atI l i
  | .tup l, .int i => atI l i
  | _, _ => none
theorem Dts.atI {K : PySem.W.Frag} {Hf : Hp} {ρ : List Addr} {l : List D} {vs : List V} {i : Int} {d : D} (h : Dts K Hf ρ l vs) (e : L2.atI l i = some d) : ∃ v, L2.atI vs i = some v ∧ Dt K Hf ρ d v := by
  unfold L2.atI at e ⊢
  rw [← h.length]
  cases z : ixN l.length i with
  | none => rw [z] at e; cases e
  | some j =>
    rw [z] at e
    exact h.get e
section
variable {X : Cx} {B : Gr} {W : WX} {pos : Pos} {a b : Expr} {fa fb : FE}
theorem ixq : IxQ X gIx := by
  refine ⟨_, ix_list.or ix_tup, fun a b x y H Hf ρ S Q d hr wa wb e q => ?_⟩
  unfold gIx at e
  split at e
  · rename_i l i
    obtain ⟨p, vs, rfl, _, h1, h2⟩ := wa
    have wb : y = .int i := wb
    obtain ⟨v, k1, k2⟩ := h2.atI e
    exact .inl ⟨p, vs, i, v, rfl, wb, SqL.of h1, k1, q _ _ _ _ hr (Tr.refl _ _ _) k2⟩
  · rename_i l i
    obtain ⟨p, vs, rfl, h1, h2⟩ := (show Dt X.K Hf ρ (.tup l) x from wa)
    have wb : y = .int i := wb
    obtain ⟨v, k1, k2⟩ := h2.atI e
    exact .inr ⟨p, vs, i, v, rfl, wb, hr.sub.sqT h1, k1, q _ _ _ _ hr (Tr.refl _ _ _) k2⟩
  · cases e
theorem q_ix (hs : PlainIx b) (ha : QR X B W a fa) (hb : QR X B W b fb) : QE X B W (.Subscript a b pos) (fOp gIx fa fb) := by
  obtain ⟨r, h1, h2⟩ := (ixq : IxQ X gIx)
  obtain ⟨ta, a1, a2⟩ := ha
  obtain ⟨tb, b1, b2⟩ := hb
  exact ⟨_, pe_ix h1 a1 b1 hs, q_two a2 b2 h2⟩
end
end DL

end

section
set_option autoImplicit false
set_option autoImplicit false
namespace DL
open PySem PySem.Spec PyProof.Rows L2

/-- around a block -/
structure Cc (X : Cx) (W : WX) : Prop where
  tk : Takes X W
  po : PassesOwn (model X.prog X.w) X.A X.env X.xe
  calm : X.calm = true
  kd : X.env.scope.kind = .function
  nd : X.N.Nodup
/-- a plain local name -/
structure Ll (X : Cx) (i : Nat) (x : Str) : Prop where
  ix : X.N[i]? = some x
  loc : X.env.scope.names.lookup x = some .local
theorem Ll.lr {X : Cx} {i : Nat} {x : Str} (h : Ll X i x) (nd : X.N.Nodup) : Lr X i x := ⟨nd, h.ix, .inl h.loc, .inr h.loc⟩

/-! ### what a store does to the relation -/
section
variable {K : PySem.W.Frag} {B : Gr} {E : Env} {S : Store} {σ : L2.St} {H Hf : Hp} {ρ : List Addr}
theorem Rel.set (r : Rel K B E S σ H Hf ρ) {d : D} {v : V} (i : Nat) (h : Dt K Hf ρ d v) : Rel K B (E.set i (some (.fz d))) S (σ.set i (some v)) H Hf ρ := by
  refine ⟨r.hr, r.tr, by simp [r.len], fun j s e => ?_, fun j k a d1 d2 e1 e2 e3 e4 => ?_⟩
  · by_cases hj : i = j
    · subst hj
      rw [List.getElem?_set] at e
      split at e
      · split at e
        · rename_i h2
          cases e
          refine ⟨v, ?_, h⟩
          rw [List.getElem?_set_self (by rw [← r.len]; exact h2)]
        · cases e
      · rename_i h3; exact absurd rfl h3
    · rw [List.getElem?_set_ne hj] at e
      rw [List.getElem?_set_ne hj]
      exact r.sl j s e
  · have ne : ∀ (j : Nat) d, (E.set i (some (.fz d)))[j]? = some (some (.own d)) → False ∨ i ≠ j := fun j d e => by
      by_cases hj : i = j
      · subst hj
        rw [List.getElem?_set] at e
        split at e
        · split at e
          · cases e
          · cases e
        · rename_i h3; exact absurd rfl h3
      · exact .inr hj
    have n1 : i ≠ j := by
      intro hj; subst hj
      rw [List.getElem?_set] at e1
      split at e1
      · split at e1 <;> cases e1
      · rename_i h3; exact h3 rfl
    have n2 : i ≠ k := by
      intro hj; subst hj
      rw [List.getElem?_set] at e2
      split at e2
      · split at e2 <;> cases e2
      · rename_i h3; exact h3 rfl
    rw [List.getElem?_set_ne n1] at e1 e3
    rw [List.getElem?_set_ne n2] at e2 e4
    exact r.dis j k a d1 d2 e1 e2 e3 e4
theorem get_set_own {E : Env} {i j : Nat} {x : Option Sl} {y : Sl} (h : (E.set i x)[j]? = some (some y)) : (i = j ∧ x = some y ∧ i < E.length) ∨ (i ≠ j ∧ E[j]? = some (some y)) := by
  by_cases hj : i = j
  · subst hj
    rw [List.getElem?_set] at h
    split at h
    · split at h
      · rename_i h2; cases h; exact .inl ⟨rfl, rfl, h2⟩
      · cases h
    · rename_i h3; exact absurd rfl h3
  · rw [List.getElem?_set_ne hj] at h
    exact .inr ⟨hj, h⟩
/-- a name gets a thing of its own -/
theorem Rel.setOwn (r : Rel K B E S σ H Hf ρ) {d : D} {p : Addr} (i : Nat) (h0 : B.H0 p = none) (hf : Hf p = none) (hn : p ∉ ρ) (o : OwnAt K H Hf ρ p d)
    (hd : ∀ (j : Nat) e, E[j]? = some (some (.own e)) → σ[j]? ≠ some (some (.ref p))) : Rel K B (E.set i (some (.own d))) S (σ.set i (some (.ref p))) H Hf ρ := by
  refine ⟨r.hr, r.tr, by simp [r.len], fun j s e => ?_, fun j k a d1 d2 e1 e2 e3 e4 => ?_⟩
  · rcases get_set_own e with ⟨rfl, e, hl⟩ | ⟨hj, e⟩
    · cases e
      refine ⟨p, ?_, h0, hf, hn, o⟩
      rw [List.getElem?_set_self (by rw [← r.len]; exact hl)]
    · rw [List.getElem?_set_ne hj]
      exact r.sl j s e
  · rcases get_set_own e1 with ⟨rfl, x1, hl⟩ | ⟨hj, e1⟩
    · rcases get_set_own e2 with ⟨rfl, x2, hl2⟩ | ⟨hk, e2⟩
      · rfl
      · rw [List.getElem?_set_self (by rw [← r.len]; exact hl)] at e3
        rw [List.getElem?_set_ne hk] at e4
        cases e3
        exact absurd e4 (hd k _ e2)
    · rcases get_set_own e2 with ⟨rfl, x2, hl2⟩ | ⟨hk, e2⟩
      · rw [List.getElem?_set_self (by rw [← r.len]; exact hl2)] at e4
        rw [List.getElem?_set_ne hj] at e3
        cases e4
        exact absurd e3 (hd j _ e1)
      · rw [List.getElem?_set_ne hj] at e3
        rw [List.getElem?_set_ne hk] at e4
        exact r.dis j k a d1 d2 e1 e2 e3 e4
/-- a name is forgotten -/
theorem Rel.drop (r : Rel K B E S σ H Hf ρ) (i : Nat) : Rel K B (E.set i none) S σ H Hf ρ := by
  refine ⟨r.hr, r.tr, by simp [r.len], fun j s e => ?_, fun j k a d1 d2 e1 e2 e3 e4 => ?_⟩
  · rcases get_set_own e with ⟨rfl, e, hl⟩ | ⟨hj, e⟩
    · cases e
    · exact r.sl j s e
  · rcases get_set_own e1 with ⟨rfl, x1, hl⟩ | ⟨hj, e1⟩
    · cases x1
    · rcases get_set_own e2 with ⟨rfl, x2, hl2⟩ | ⟨hk, e2⟩
      · cases x2
      · exact r.dis j k a d1 d2 e1 e2 e3 e4
/-- what is one's own changes -/
theorem Rel.updOwn (r : Rel K B E S σ H Hf ρ) {i : Nat} {a : Addr} {d d' : D} {o : HO} (e : E[i]? = some (some (.own d))) (hs : σ[i]? = some (some (.ref a))) (h0 : B.H0 a = none) (hf : Hf a = none) (hn : a ∉ ρ)
    (x : OwnAt K (upd H a o) Hf ρ a d') : Rel K B (E.set i (some (.own d'))) S σ (upd H a o) Hf ρ := by
  refine ⟨r.hr.own hf hn, ⟨r.tr.hf, r.tr.pre, fun b u hb hbn => ?_, fun b hb => r.tr.fresh b hb, r.tr.newh, fun b hb => ?_⟩, by simp [r.len], fun j s ej => ?_, fun j k b d1 d2 e1 e2 e3 e4 => ?_⟩
  · have : b ≠ a := fun z => by subst z; rw [h0] at hb; cases hb
    rw [upd_ne this]; exact r.tr.keep b u hb hbn
  · by_cases z : b = a
    · subst z; rw [upd_same]; simp
    · rw [upd_ne z]; exact r.tr.alive b hb
  · rcases get_set_own ej with ⟨rfl, ej, hl⟩ | ⟨hj, ej⟩
    · cases ej
      exact ⟨a, hs, h0, hf, hn, x⟩
    · have q := r.sl j s ej
      cases s with
      | fz d => exact q
      | own d2 =>
        obtain ⟨b, q1, q2, q3, q4, q5⟩ := q
        have : b ≠ a := fun z => hj (by subst z; exact r.dis i j _ d d2 e ej hs q1)
        refine ⟨b, q1, q2, q3, q4, ?_⟩
        cases d2 with
        | lst l => obtain ⟨vs, k1, k2⟩ := q5; exact ⟨vs, by rw [upd_ne this]; exact k1, k2⟩
        | dct l => obtain ⟨vs, k1, k2⟩ := q5; exact ⟨vs, by rw [upd_ne this]; exact k1, k2⟩
        | _ => exact q5.elim
  · have a1 : ∃ d1, E[j]? = some (some (.own d1)) := by
      rcases get_set_own e1 with ⟨rfl, x1, hl⟩ | ⟨hj, e1⟩
      · exact ⟨d, e⟩
      · exact ⟨_, e1⟩
    have a2 : ∃ d1, E[k]? = some (some (.own d1)) := by
      rcases get_set_own e2 with ⟨rfl, x1, hl⟩ | ⟨hj, e2⟩
      · exact ⟨d, e⟩
      · exact ⟨_, e2⟩
    obtain ⟨_, a1⟩ := a1
    obtain ⟨_, a2⟩ := a2
    exact r.dis j k b _ _ a1 a2 e3 e4
end
/-- from now on shared -/
def frz (E : Env) (i : Nat) : Env := match E[i]? with
  | some (some (.own d)) => E.set i (some (.fz d))
  | _ => E
theorem Rel.freeze {K : PySem.W.Frag} {B : Gr} {E : Env} {S : Store} {σ : L2.St} {H Hf : Hp} {ρ : List Addr} (r : Rel K B E S σ H Hf ρ) (i : Nat) : ∃ Hf', Ext Hf Hf' ∧ Rel K B (frz E i) S σ H Hf' ρ := by
  unfold frz
  split
  · rename_i d e
    obtain ⟨a, h1, h2, h3, h4, h5⟩ := r.sl i _ e
    obtain ⟨u, hu⟩ := h5.there
    have ex : Ext Hf (upd Hf a u) := fun b z e => by
      have : b ≠ a := fun q => by subst q; rw [h3] at e; cases e
      rw [upd_ne this]; exact e
    refine ⟨upd Hf a u, ex, r.hr.freeze h3 hu h4, ⟨r.tr.hf.trans ex, r.tr.pre, r.tr.keep, fun b hb => ?_, r.tr.newh, r.tr.alive⟩, by simp [r.len], fun j s ej => ?_, fun j k b d1 d2 e1 e2 e3 e4 => ?_⟩
    · by_cases z : b = a
      · subst z; exact .inr h2
      · rw [upd_ne z] at hb; exact r.tr.fresh b hb
    · rcases get_set_own ej with ⟨rfl, ej, hl⟩ | ⟨hj, ej⟩
      · cases ej
        refine ⟨.ref a, h1, ?_⟩
        cases d with
        | lst l =>
          obtain ⟨vs, k1, k2⟩ := h5
          rw [k1] at hu; cases hu
          exact ⟨a, vs, rfl, upd_same, Dts.mono ex (Pre.refl _) _ _ k2⟩
        | dct l =>
          obtain ⟨vs, k1, k2⟩ := h5
          rw [k1] at hu; cases hu
          exact ⟨a, vs, rfl, upd_same, Dks.mono ex (Pre.refl _) _ _ k2⟩
        | _ => exact h5.elim
      · have q := r.sl j s ej
        cases s with
        | fz d =>
          obtain ⟨u, q1, q2⟩ := q
          exact ⟨u, q1, q2.mono ex (Pre.refl _)⟩
        | own d2 =>
          obtain ⟨b, q1, q2, q3, q4, q5⟩ := q
          have : b ≠ a := fun z => hj (by subst z; exact r.dis i j _ d d2 e ej h1 q1)
          refine ⟨b, q1, q2, by rw [upd_ne this]; exact q3, q4, ?_⟩
          cases d2 with
          | lst l => obtain ⟨vs, k1, k2⟩ := q5; exact ⟨vs, k1, Dts.mono ex (Pre.refl _) _ _ k2⟩
          | dct l => obtain ⟨vs, k1, k2⟩ := q5; exact ⟨vs, k1, Dks.mono ex (Pre.refl _) _ _ k2⟩
          | _ => exact q5.elim
    · rcases get_set_own e1 with ⟨rfl, x1, hl⟩ | ⟨hj, e1⟩
      · cases x1
      · rcases get_set_own e2 with ⟨rfl, x2, hl2⟩ | ⟨hk, e2⟩
        · cases x2
        · exact r.dis j k b d1 d2 e1 e2 e3 e4
  · exact ⟨Hf, Ext.refl _, r⟩

/-! ### statements -/
def fSkip : FS := fun _ E S => .nx E S
def fSeq (f g : FS) : FS := fun n E S => match f n E S with
  | .nx E' S' => g n E' S'
  | r => r
def fFrz (i : Nat) (f : FS) : FS := fun n E S => f n (frz E i) S
def fSet (i : Nat) (f : FE) : FS := fun n E S => match f n E S with
  | .ok d S1 => .nx (E.set i (some (.fz d))) S1
  | .exc x S1 => .ex x E S1
  | .stk => .stk
def fSetO (i : Nat) (f : FE) : FS := fun n E S => match f n E S with
  | .ok d S1 => .nx (E.set i (some (.own d))) S1
  | .exc x S1 => .ex x E S1
  | .stk => .stk
def fRet (f : FE) : FS := fun n E S => match f n E S with
  | .ok d S1 => .rt d S1
  | .exc x S1 => .ex x E S1
  | .stk => .stk
/-- a new list is handed back, to be held by several -/
def fRetH (f : FE) : FS := fun n E S => match f n E S with
  | .ok (.lst l) S1 => .rt (.hd S1.length) (S1 ++ [.lst l])
  | .ok _ _ => .stk
  | .exc x S1 => .ex x E S1
  | .stk => .stk
def fExp (f : FE) : FS := fun n E S => match f n E S with
  | .ok _ S1 => .nx E S1
  | .exc x S1 => .ex x E S1
  | .stk => .stk
def fIfS (c : FT) (f g : FS) : FS := fun n E S => match c n E S with
  | .ok true S1 => f n E S1
  | .ok false S1 => g n E S1
  | .exc x S1 => .ex x E S1
  | .stk => .stk
def fRaise (C : Str) : FS := fun _ E S => .ex ⟨C, none⟩ E S
section
variable {X : Cx} {B : Gr} {W : WX} {pos pos' : Pos} {st : Stmt} {sts : List Stmt} {e : Expr} {f g : FS} {fe : FE} {x : Str} {i : Nat}
theorem ss_nil : QSs X B W [] fSkip := ⟨_, pss_nil, fun n E S σ H Hf ρ Q r p => p σ H Hf ρ r (Ext.refl _) (Pre.refl _)⟩
theorem ss_cons (h1 : QS X B W st f) (h2 : QSs X B W sts g) : QSs X B W (st :: sts) (fSeq f g) := by
  obtain ⟨t, a1, a2⟩ := h1
  obtain ⟨u, b1, b2⟩ := h2
  refine ⟨_, pss_cons a1 b1, fun n E S σ H Hf ρ Q r p => ?_⟩
  refine a2 n E S σ H Hf ρ { Q with nx := u Q } r ?_
  unfold fSeq at p
  cases e1 : f n E S with
  | nx E' S' => rw [e1] at p; exact fun σ' H' Hf' ρ' r' ex pr => b2 n E' S' σ' H' Hf' ρ' Q r' (PostS.mono ex pr p)
  | rt d S' => rw [e1] at p; exact p
  | bk E' S' => rw [e1] at p; exact p
  | ct E' S' => rw [e1] at p; exact p
  | ex x E' S' => rw [e1] at p; exact p
  | stk => rw [e1] at p; exact p
theorem ss_one (h1 : QS X B W st f) : QSs X B W [st] f := by
  obtain ⟨t, a1, a2⟩ := h1
  exact ⟨_, pss_one a1, a2⟩
theorem ss_frz (h : QSs X B W sts f) (i : Nat) : QSs X B W sts (fFrz i f) := by
  obtain ⟨t, a1, a2⟩ := h
  refine ⟨_, a1, fun n E S σ H Hf ρ Q r p => ?_⟩
  obtain ⟨Hf', ex, r'⟩ := r.freeze i
  exact a2 n (frz E i) S σ H Hf' ρ Q r' (PostS.mono ex (Pre.refl _) p)
theorem s_set (l : Lr X i x) (he : QE X B W e fe) (hs : swapsWith e (some (.Name x pos')) pos.line X.env = pure false) : QS X B W (.Assign [.Name x pos'] e pos) (fSet i fe) := by
  obtain ⟨t, h1, h2⟩ := he
  refine ⟨_, ps_set l.nd l.ix l.loc h1 hs l.fn, fun n E S σ H Hf ρ Q r p => h2 n E S σ H Hf ρ _ r ?_⟩
  unfold fSet at p
  cases e1 : fe n E S with
  | stk => rw [e1] at p; exact p
  | exc y S1 => rw [e1] at p; exact fun c od H' Hf' ρ' a b d => p c od σ H' Hf' ρ' (r.step a b) b.hf b.pre d
  | ok d S1 => rw [e1] at p; exact fun v H' Hf' ρ' a b w => p _ _ _ _ ((r.step a b).set i w) b.hf b.pre
theorem set_own {n : Nat} {E : Env} {S : Store} {σ : L2.St} {H Hf : Hp} {ρ : List Addr} {Q : Ends} (r : Rel X.K B E S σ H Hf ρ) (p : PostS X.K W B Hf ρ Q (fSetO i fe n E S)) :
    PostF X.K W σ H Hf ρ (fun x H1 => gName i x σ H1 Q.nx) (fe n E S) := by
  unfold fSetO at p
  cases e1 : fe n E S with
  | stk => rw [e1] at p; exact p
  | exc y S1 => rw [e1] at p; exact fun c od H' Hf' ρ' a b d => p c od σ H' Hf' ρ' (r.step a b) b.hf b.pre d
  | ok d S1 =>
    rw [e1] at p
    intro q H' Hf' ρ' a b n1 n2 n3 o
    have r' := r.step a b
    refine p _ _ _ _ (r'.setOwn i ?_ n2 n3 o fun j e2 ej hj => ?_) b.hf b.pre
    · cases z : B.H0 q with
      | none => rfl
      | some u => exact absurd n1 (r.tr.alive q (by rw [z]; simp))
    · obtain ⟨a2, k1, _, _, _, k5⟩ := r.sl j _ ej
      rw [k1] at hj
      cases hj
      obtain ⟨u, hu⟩ := k5.there
      rw [n1] at hu; cases hu
theorem s_setO (l : Lr X i x) (he : QF X B W e fe) (hs : swapsWith e (some (.Name x pos')) pos.line X.env = pure false) : QS X B W (.Assign [.Name x pos'] e pos) (fSetO i fe) := by
  obtain ⟨t, h1, h2⟩ := he
  exact ⟨_, ps_set l.nd l.ix l.loc h1 hs l.fn, fun n E S σ H Hf ρ Q r p => h2 n E S σ H Hf ρ _ r (set_own r p)⟩
theorem s_ret (he : QE X B W e fe) : QS X B W (.Return (some e) pos) (fRet fe) := by
  obtain ⟨t, h1, h2⟩ := he
  refine ⟨_, ps_ret h1, fun n E S σ H Hf ρ Q r p => h2 n E S σ H Hf ρ _ r ?_⟩
  unfold fRet at p
  cases e1 : fe n E S with
  | stk => rw [e1] at p; exact p
  | exc y S1 => rw [e1] at p; exact fun c od H' Hf' ρ' a b d => p c od σ H' Hf' ρ' (r.step a b) b.hf b.pre d
  | ok d S1 => rw [e1] at p; exact fun v H' Hf' ρ' a b w => p v H' Hf' ρ' a (r.tr.trans b) w
theorem s_retN : QS X B W (.Return none pos) (fRet (fC .non)) :=
  ⟨_, ps_retN, fun n E S σ H Hf ρ Q r p => p .non H Hf ρ r.hr r.tr rfl⟩
theorem s_retH (he : QF X B W e fe) : QS X B W (.Return (some e) pos) (fRetH fe) := by
  obtain ⟨t, h1, h2⟩ := he
  refine ⟨_, ps_ret h1, fun n E S σ H Hf ρ Q r p => h2 n E S σ H Hf ρ _ r ?_⟩
  unfold fRetH at p
  cases e1 : fe n E S with
  | stk => rw [e1] at p; exact p
  | exc y S1 => rw [e1] at p; exact fun c od H' Hf' ρ' a b d => p c od σ H' Hf' ρ' (r.step a b) b.hf b.pre d
  | ok d S1 =>
    rw [e1] at p
    cases d <;> try exact p.elim
    rename_i l
    intro q H' Hf' ρ' a b n1 n2 n3 o
    obtain ⟨vs, o1, o2⟩ := o
    have pre : Pre ρ' (ρ' ++ [q]) := fun n z h => by
      rw [List.getElem?_append_left (List.getElem?_eq_some_iff.mp h).1]; exact h
    have get : ∀ (n : Nat) z, (ρ' ++ [q])[n]? = some z → (n < ρ'.length ∧ ρ'[n]? = some z) ∨ (n = ρ'.length ∧ z = q) := fun n z h => by
      by_cases hn : n < ρ'.length
      · rw [List.getElem?_append_left hn] at h; exact .inl ⟨hn, h⟩
      · rw [List.getElem?_append_right (by omega)] at h
        have h0 : n - ρ'.length = 0 := by
          have := (List.getElem?_eq_some_iff.mp h).1
          simp at this; omega
        rw [h0] at h
        simp at h
        exact .inr ⟨by omega, h.symm⟩
    have tr0 := r.tr.trans b
    refine p (.ref q) H' Hf' (ρ' ++ [q]) ⟨a.sub, by simp [a.len], fun i j z hi hj => ?_, fun n z h => ?_, fun n z c h hc => ?_⟩ ⟨tr0.hf, tr0.pre.trans pre, tr0.keep, tr0.fresh, fun z hz => ?_, tr0.alive⟩ ⟨q, ?_, rfl⟩
    · rcases get i z hi with ⟨_, hi1⟩ | ⟨hi1, ez⟩
      · rcases get j z hj with ⟨_, hj1⟩ | ⟨hj1, ez⟩
        · exact a.nd i j z hi1 hj1
        · rw [ez] at hi1; exact absurd (mem_of_get hi1) n3
      · rcases get j z hj with ⟨_, hj1⟩ | ⟨hj1, _⟩
        · rw [ez] at hj1; exact absurd (mem_of_get hj1) n3
        · omega
    · rcases get n z h with ⟨_, h⟩ | ⟨h, rfl⟩
      · exact a.hd n z h
      · exact n2
    · rcases get n z h with ⟨hn, h⟩ | ⟨rfl, rfl⟩
      · rw [List.getElem?_append_left (by rw [← a.len]; exact hn)] at hc
        have := a.cell n z c h hc
        cases c with
        | lst l => obtain ⟨us, x1, x2⟩ := this; exact ⟨us, x1, x2.mono (Ext.refl _) pre⟩
        | ins C fs => obtain ⟨dx, gs, x1, x2⟩ := this; exact ⟨dx, gs, x1, Dfs.mono (Ext.refl _) pre _ _ x2⟩
      · rw [a.len, List.getElem?_append_right (Nat.le_refl _)] at hc
        simp at hc
        subst hc
        exact ⟨vs, o1, o2.mono (Ext.refl _) pre⟩
    · rcases List.mem_append.mp hz with hz | hz
      · exact tr0.newh z hz
      · have : z = q := by simpa using hz
        subst this
        refine .inr ?_
        cases w : B.H0 z with
        | none => rfl
        | some u => exact absurd n1 (r.tr.alive z (by rw [w]; simp))
    · rw [← a.len, List.getElem?_append_right (Nat.le_refl _)]; simp
theorem s_exp (he : QE X B W e fe) (hs : swapsWith e none pos.line X.env = pure false) : QS X B W (.Expr e pos) (fExp fe) := by
  obtain ⟨t, h1, h2⟩ := he
  refine ⟨_, ps_expr h1 hs, fun n E S σ H Hf ρ Q r p => h2 n E S σ H Hf ρ _ r ?_⟩
  unfold fExp at p
  cases e1 : fe n E S with
  | stk => rw [e1] at p; exact p
  | exc y S1 => rw [e1] at p; exact fun c od H' Hf' ρ' a b d => p c od σ H' Hf' ρ' (r.step a b) b.hf b.pre d
  | ok d S1 => rw [e1] at p; exact fun v H' Hf' ρ' a b w => p _ _ _ _ (r.step a b) b.hf b.pre
theorem s_if {c : Expr} {a b : List Stmt} {ft : FT} (hc : QT X B W c ft) (ha : QSs X B W a f) (hb : QSs X B W b g) : QS X B W (.If c a b pos) (fIfS ft f g) := by
  obtain ⟨tc, c1, c2⟩ := hc
  obtain ⟨ta, a1, a2⟩ := ha
  obtain ⟨tb, b1, b2⟩ := hb
  refine ⟨_, ps_if c1 a1 b1, fun n E S σ H Hf ρ Q r p => c2 n E S σ H Hf ρ _ r ?_⟩
  unfold fIfS at p
  cases e1 : ft n E S with
  | stk => rw [e1] at p; exact p
  | exc y S1 => rw [e1] at p; exact fun c od H' Hf' ρ' a b d => p c od σ H' Hf' ρ' (r.step a b) b.hf b.pre d
  | ok k S1 =>
    rw [e1] at p
    intro H' Hf' ρ' h1 h2
    cases k with
    | true => exact a2 n E S1 σ H' Hf' ρ' Q (r.step h1 h2) (PostS.mono h2.hf h2.pre p)
    | false => exact b2 n E S1 σ H' Hf' ρ' Q (r.step h1 h2) (PostS.mono h2.hf h2.pre p)
/-- an error class of the text, as ValueError's -/
structure ExcC (X : Cx) (x : Str) : Prop where
  gl : Gl X x
  mg : X.mg x = some (.ref (He.ga X.K x))
  ex : PySem.W.excIn X.K (He.ga X.K x) He.veBase "ValueError.__new__" = true
  kp : PySem.W.keepIn X.K (.ref (He.ga X.K x)) = true
  sb : PySem.W.subIn X.K (.ref (He.ga X.K x)) (.type "BaseException") = some true
  ty : PySem.W.typeIn X.K (.ref (He.ga X.K x)) = some (.type "type")
  db : (x == ("__debug__" : Str)) = false
theorem s_raise {m : Str} {j : Nat} {p1 p2 : Pos} (c : ExcC X x) (cc : Cc X W) : QS X B W (.Raise (some (.Call (.Name x p1) [.Constant (.str m) j p2] [] pos')) none pos) (fRaise x) :=
  ⟨_, ps_raise cc.calm cc.tk (pmk_own PySem.F.excBase_ValueError c.ex c.mg c.kp (raises_own c.sb c.ty) c.gl c.db), fun n E S σ H Hf ρ Q r p => p (.ref (He.ga X.K x)) none σ H Hf ρ r (Ext.refl _) (Pre.refl _) ⟨rfl, trivial⟩⟩
end
end DL

end

section
set_option autoImplicit false
set_option autoImplicit false
namespace DL
open PySem PySem.Spec PyProof.Rows L2

/-! ### targets -/
abbrev Tgt := D → Env → Option Env
abbrev Tgts := List D → Env → Option Env
def gN (i : Nat) : Tgt := fun d E => some (E.set i (some (.fz d)))
def gT (g : Tgts) : Tgt := fun d E => match d with
  | .tup l => g l E
  | _ => none
def gNils : Tgts := fun l E => match l with
  | [] => some E
  | _ => none
def gConss (g : Tgt) (gs : Tgts) : Tgts := fun l E => match l with
  | d :: l => (g d E).bind fun E1 => gs l E1
  | _ => none
def QG (X : Cx) (B : Gr) (tg : Expr) (is : List Nat) (g : Tgt) : Prop := ∃ t, PG X tg t ∧
  ∀ d E E' S σ H Hf ρ v Q, Rel X.K B E S σ H Hf ρ → Dt X.K Hf ρ d v → g d E = some E' → (∀ σ', Rel X.K B E' S σ' H Hf ρ → (∀ vs, (∀ i ∈ is, i ∈ vs) → wipe σ' vs = wipe σ vs) → Q σ' H) → t v σ H Q
def QGs (X : Cx) (B : Gr) (tgs : List Expr) (is : List Nat) (g : Tgts) : Prop := ∃ t, PGs X tgs t ∧
  ∀ l E E' S σ H Hf ρ vs Q, Rel X.K B E S σ H Hf ρ → Dts X.K Hf ρ l vs → g l E = some E' → (∀ σ', Rel X.K B E' S σ' H Hf ρ → (∀ ws, (∀ i ∈ is, i ∈ ws) → wipe σ' ws = wipe σ ws) → Q σ' H) → vs.length = l.length ∧ t vs σ H Q
theorem wipe_set {σ : L2.St} {i : Nat} {x : Option V} : ∀ {vs : List Nat}, i ∈ vs → wipe (σ.set i x) vs = wipe σ vs
  | [], h => by cases h
  | v :: vs, h => by
    unfold wipe
    by_cases hv : i ∈ vs
    · rw [wipe_set hv]
    · have e : i = v := by
        rcases List.mem_cons.mp h with h | h
        · exact h
        · exact absurd h hv
      subst e
      have z : ∀ (ws : List Nat) (τ : L2.St), i ∉ ws → wipe (τ.set i x) ws = (wipe τ ws).set i x := by
        intro ws
        induction ws with
        | nil => intro τ _; rfl
        | cons w ws ih =>
          intro τ hw
          unfold wipe
          rw [ih τ fun q => hw (List.mem_cons_of_mem _ q)]
          exact List.set_comm _ _ fun q => hw (by rw [q]; exact List.mem_cons_self)
      rw [z vs σ hv, List.set_set]
section
variable {X : Cx} {B : Gr} {pos : Pos} {x : Str} {i : Nat} {e : Expr} {es : List Expr} {is js : List Nat} {g : Tgt} {gs : Tgts}
theorem g_name (l : Lr X i x) : QG X B (.Name x pos) [i] (gN i) := by
  refine ⟨_, pg_name l.nd l.ix l.loc l.fn, fun d E E' S σ H Hf ρ v Q r w h q => ?_⟩
  cases h
  exact q _ (r.set i w) fun vs hv => wipe_set (hv i (by simp))
theorem gs_nil : QGs X B [] [] gNils := by
  refine ⟨_, pgs_nil, fun l E E' S σ H Hf ρ vs Q r w h q => ?_⟩
  unfold gNils at h
  split at h
  · cases h
    simp only [Dts] at w
    subst w
    exact ⟨rfl, rfl, q σ r fun _ _ => rfl⟩
  · cases h
theorem gs_cons (h1 : QG X B e is g) (h2 : QGs X B es js gs) (hs : (assignEach (e :: es) X.env).map (·.2) = assign e X.env :: (assignEach es X.env).map (·.2)) : QGs X B (e :: es) (is ++ js) (gConss g gs) := by
  obtain ⟨t, a1, a2⟩ := h1
  obtain ⟨u, b1, b2⟩ := h2
  refine ⟨_, pgs_cons a1 b1 hs, fun l E E' S σ H Hf ρ vs Q r w h q => ?_⟩
  unfold gConss at h
  split at h
  · rename_i d l
    simp only [Option.bind_eq_some_iff] at h
    obtain ⟨E1, e1, e2⟩ := h
    simp only [Dts] at w
    obtain ⟨v, rs, rfl, w1, w2⟩ := w
    refine ⟨by rw [List.length_cons, List.length_cons, w2.length], v, rs, rfl, ?_⟩
    refine a2 d E E1 S σ H Hf ρ v _ r w1 e1 fun σ' r' z => ?_
    refine (b2 l E1 E' S σ' H Hf ρ rs Q r' w2 e2 fun σ2 r2 z2 => q σ2 r2 fun ws hw => ?_).2
    rw [z2 ws fun i hi => hw i (List.mem_append_right _ hi), z ws fun i hi => hw i (List.mem_append_left _ hi)]
  · cases h
/-- the number of targets -/
theorem g_tup {k n : Nat} (hc : X.calm = true) (h : QGs X B es is gs) (hl : ∀ l E E', gs l E = some E' → l.length = n) (hn : (assignEach es X.env).length = n) (hst : (assignEach es X.env).findIdx? (·.1) = none) : QG X B (.Tuple es k pos) is (gT gs) := by
  obtain ⟨t, a1, a2⟩ := h
  refine ⟨_, pg_tup hc a1 hn hst, fun d E E' S σ H Hf ρ v Q r w h q => ?_⟩
  unfold gT at h
  split at h
  · rename_i l
    obtain ⟨a, vs, rfl, w1, w2⟩ := (show Dt X.K Hf ρ (.tup l) v from w)
    obtain ⟨x1, x2⟩ := a2 l E E' S σ H Hf ρ vs Q r w2 h q
    exact ⟨a, vs, rfl, r.hr.sub.sqT w1, by rw [x1, hl l E E' h], x2⟩
  · cases h
end
structure GLen (gs : Tgts) (n : Nat) : Prop where
  len : ∀ l E E', gs l E = some E' → l.length = n
theorem gl_nil : GLen gNils 0 := ⟨fun l E E' h => by unfold gNils at h; split at h <;> first | rfl | cases h⟩
theorem gl_cons {g : Tgt} {gs : Tgts} {n : Nat} (h : GLen gs n) : GLen (gConss g gs) (n + 1) := ⟨fun l E E' e => by
  unfold gConss at e
  split at e
  · simp only [Option.bind_eq_some_iff] at e
    obtain ⟨E1, _, e2⟩ := e
    rw [List.length_cons, h.len _ _ _ e2]
  · cases e⟩

/-! ### assignments to several -/
def fAsg (g : Tgt) (f : FE) : FS := fun n E S => match f n E S with
  | .ok d S1 => match g d E with
    | some E1 => .nx E1 S1
    | none => .stk
  | .exc x S1 => .ex x E S1
  | .stk => .stk
def fPar2 (i j : Nat) (f : FA) : FS := fun n E S => match f n E S with
  | .ok [a, b] S1 => .nx ((E.set i (some (.fz a))).set j (some (.fz b))) S1
  | .ok _ _ => .stk
  | .exc x S1 => .ex x E S1
  | .stk => .stk
def fPar3 (i j k : Nat) (f : FA) : FS := fun n E S => match f n E S with
  | .ok [a, b, c] S1 => .nx (((E.set i (some (.fz a))).set j (some (.fz b))).set k (some (.fz c))) S1
  | .ok _ _ => .stk
  | .exc x S1 => .ex x E S1
  | .stk => .stk
section
variable {X : Cx} {B : Gr} {W : WX} {pos : Pos} {fe : FE} {fa : FA}
theorem s_asg {tg e : Expr} {is : List Nat} {g : Tgt} (he : QE X B W e fe) (hg : QG X B tg is g) (hs : swapsWithSole [tg] e pos.line X.env = pure false) (hw : swappedStores [tg] e X.env = pure none)
    (h1 : (assignEach [tg] X.env).map (·.2) = [assign tg X.env]) : QS X B W (.Assign [tg] e pos) (fAsg g fe) := by
  obtain ⟨t, a1, a2⟩ := he
  obtain ⟨u, b1, b2⟩ := hg
  refine ⟨_, ps_asg a1 b1 hs hw h1, fun n E S σ H Hf ρ Q r p => a2 n E S σ H Hf ρ _ r ?_⟩
  unfold fAsg at p
  cases e1 : fe n E S with
  | stk => rw [e1] at p; exact p
  | exc y S1 => rw [e1] at p; exact fun c od H' Hf' ρ' a b d => p c od σ H' Hf' ρ' (r.step a b) b.hf b.pre d
  | ok d S1 =>
    rw [e1] at p
    intro v H' Hf' ρ' a b w
    have p : PostS X.K W B Hf ρ Q (match g d E with | some E1 => .nx E1 S1 | none => .stk) := p
    cases e2 : g d E with
    | none => rw [e2] at p; exact p.elim
    | some E1 =>
      rw [e2] at p
      exact b2 d E E1 S1 σ H' Hf' ρ' v _ (r.step a b) w e2 fun σ' r' _ => p σ' H' Hf' ρ' r' b.hf b.pre
theorem sw2 {env : PySem.Env} {x y : Str} {px py pt pt2 : Pos} {kt k2 : Nat} {a b : Expr} (hk : env.scope.kind = .function) (hx : env.scope.names.lookup x = some .local) (hy : env.scope.names.lookup y = some .local)
    (hne : [x, y].eraseDups.length = 2) (hl : (py.line == px.line) = true) (h1 : ([a, b].any fun | .Starred .. => true | _ => false) = false) (h2 : [a, b].all (foldedForSure 8) = false) (h3 : [a, b].all (constantsAlone 8) = false) :
    swappedStores [.Tuple [.Name x px, .Name y py] kt pt] (.Tuple [a, b] k2 pt2) env = pure (some [x, y]) := by
  have hb : env.blockKind = .function := by unfold PySem.Env.blockKind; rw [hk]; rfl
  have kx : env.kindOf x = some .local := hx
  have ky : env.kindOf y = some .local := hy
  unfold swappedStores
  dsimp only
  generalize hA : List.all [a, b] (foldedForSure 8) = A at *
  generalize hB : List.all [a, b] (constantsAlone 8) = C at *
  subst h2 h3
  rw [if_neg (by rw [hb]; exact Bool.false_ne_true)]
  refine Eq.trans (if_neg (fun z => Bool.false_ne_true (h1.symm.trans z))) ?_
  generalize hF : List.filterMap _ _ = F
  have e : F = [x, y] := by
    rw [← hF]
    have hl0 : ∀ p : Pos, (p.line == (Option.map (fun x => Expr.pos x |>.line) [Expr.Name x px, Expr.Name y py].head?).getD 0) = (p.line == px.line) := fun _ => rfl
    rw [List.filterMap_cons, List.filterMap_cons, List.filterMap_nil]
    dsimp only
    rw [hl0, hl0, kx, ky, hl]
    simp
  subst e
  rw [if_neg (by rw [hne]; exact Bool.false_ne_true), if_neg Bool.false_ne_true, if_neg Bool.false_ne_true]
theorem sw3 {env : PySem.Env} {x y z : Str} {px py pz pt pt2 : Pos} {kt k2 : Nat} {a b c : Expr} (hk : env.scope.kind = .function) (hx : env.scope.names.lookup x = some .local) (hy : env.scope.names.lookup y = some .local) (hz : env.scope.names.lookup z = some .local)
    (hne : [x, y, z].eraseDups.length = 3) (hl : (py.line == px.line) = true) (hl2 : (pz.line == px.line) = true) (h1 : ([a, b, c].any fun | .Starred .. => true | _ => false) = false) (h2 : [a, b, c].all (foldedForSure 8) = false) (h3 : [a, b, c].all (constantsAlone 8) = false) :
    swappedStores [.Tuple [.Name x px, .Name y py, .Name z pz] kt pt] (.Tuple [a, b, c] k2 pt2) env = pure (some [x, y, z]) := by
  have hb : env.blockKind = .function := by unfold PySem.Env.blockKind; rw [hk]; rfl
  have kx : env.kindOf x = some .local := hx
  have ky : env.kindOf y = some .local := hy
  have kz : env.kindOf z = some .local := hz
  unfold swappedStores
  dsimp only
  generalize hA : List.all [a, b, c] (foldedForSure 8) = A at *
  generalize hB : List.all [a, b, c] (constantsAlone 8) = C at *
  subst h2 h3
  rw [if_neg (by rw [hb]; exact Bool.false_ne_true)]
  refine Eq.trans (if_neg (fun z => Bool.false_ne_true (h1.symm.trans z))) ?_
  generalize hF : List.filterMap _ _ = F
  have e : F = [x, y, z] := by
    rw [← hF]
    have hl0 : ∀ p : Pos, (p.line == (Option.map (fun x => Expr.pos x |>.line) [Expr.Name x px, Expr.Name y py, Expr.Name z pz].head?).getD 0) = (p.line == px.line) := fun _ => rfl
    rw [List.filterMap_cons, List.filterMap_cons, List.filterMap_cons, List.filterMap_nil]
    dsimp only
    rw [hl0, hl0, hl0, kx, ky, kz, hl, hl2]
    simp
  subst e
  rw [if_neg (by rw [hne]; exact Bool.false_ne_true), if_neg Bool.false_ne_true, if_neg Bool.false_ne_true]
theorem s_par2 {i j : Nat} {x y : Str} {a b : Expr} {px py pt pt2 : Pos} {kt k2 : Nat} (cc : Cc X W) (lx : Ll X i x) (ly : Ll X j y) (hij : i ≠ j) (ha : QA X B W [a, b] fa)
    (hw : swappedStores [.Tuple [.Name x px, .Name y py] kt pt] (.Tuple [a, b] k2 pt2) X.env = pure (some [x, y]))
    (hs : swapsWithSole [.Tuple [.Name x px, .Name y py] kt pt] (.Tuple [a, b] k2 pt2) pos.line X.env = pure false) :
    QS X B W (.Assign [.Tuple [.Name x px, .Name y py] kt pt] (.Tuple [a, b] k2 pt2) pos) (fPar2 i j fa) := by
  obtain ⟨t, a1, a2⟩ := ha
  refine ⟨_, ps_par cc.calm cc.nd lx.ix ly.ix hij lx.loc ly.loc a1 hw hs, fun n E S σ H Hf ρ Q r p => a2 n E S σ H Hf ρ _ r ?_⟩
  unfold fPar2 at p
  cases e1 : fa n E S with
  | stk => rw [e1] at p; exact p
  | exc y S1 => rw [e1] at p; exact fun c od H' Hf' ρ' a b d => p c od σ H' Hf' ρ' (r.step a b) b.hf b.pre d
  | ok ds S1 =>
    rw [e1] at p
    intro vs H' Hf' ρ' h1 h2 w
    match ds, p, w with
    | [d1, d2], p, w =>
      obtain ⟨v1, r1, rfl, w1, w2⟩ := w
      obtain ⟨v2, r2, rfl, w2, w3⟩ := w2
      cases w3
      exact ⟨v1, v2, rfl, p _ _ _ _ (((r.step h1 h2).set i w1).set j w2) h2.hf h2.pre⟩
theorem s_par3 {i j k : Nat} {x y z : Str} {a b c : Expr} {px py pz pt pt2 : Pos} {kt k2 : Nat} (cc : Cc X W) (lx : Ll X i x) (ly : Ll X j y) (lz : Ll X k z) (hij : i ≠ j) (hik : i ≠ k) (hjk : j ≠ k) (ha : QA X B W [a, b, c] fa)
    (hw : swappedStores [.Tuple [.Name x px, .Name y py, .Name z pz] kt pt] (.Tuple [a, b, c] k2 pt2) X.env = pure (some [x, y, z]))
    (hs : swapsWithSole [.Tuple [.Name x px, .Name y py, .Name z pz] kt pt] (.Tuple [a, b, c] k2 pt2) pos.line X.env = pure false) :
    QS X B W (.Assign [.Tuple [.Name x px, .Name y py, .Name z pz] kt pt] (.Tuple [a, b, c] k2 pt2) pos) (fPar3 i j k fa) := by
  obtain ⟨t, a1, a2⟩ := ha
  refine ⟨_, ps_par3 cc.calm cc.nd lx.ix ly.ix lz.ix hij hik hjk lx.loc ly.loc lz.loc a1 hw hs, fun n E S σ H Hf ρ Q r p => a2 n E S σ H Hf ρ _ r ?_⟩
  unfold fPar3 at p
  cases e1 : fa n E S with
  | stk => rw [e1] at p; exact p
  | exc y S1 => rw [e1] at p; exact fun c od H' Hf' ρ' a b d => p c od σ H' Hf' ρ' (r.step a b) b.hf b.pre d
  | ok ds S1 =>
    rw [e1] at p
    intro vs H' Hf' ρ' h1 h2 w
    match ds, p, w with
    | [d1, d2, d3], p, w =>
      obtain ⟨v1, r1, rfl, w1, w2⟩ := w
      obtain ⟨v2, r2, rfl, w2, w3⟩ := w2
      obtain ⟨v3, r3, rfl, w3, w4⟩ := w3
      cases w4
      exact ⟨v1, v2, v3, rfl, p _ _ _ _ ((((r.step h1 h2).set i w1).set j w2).set k w3) h2.hf h2.pre⟩
end

/-! ### what is walked -/
def WalkD (K : PySem.W.Frag) (J : It) (ds : List D) (Hf : Hp) (ρ : List Addr) : Prop := ∀ (H1 Hf1 : Hp) (ρ1 : List Addr) (S1 : Store), HR K H1 Hf1 ρ1 S1 → Ext Hf Hf1 → Pre ρ ρ1 → ∀ i : Nat,
  (∀ d, ds[i]? = some d → J.go i H1 ∧ ∀ x H2, J.yld i H1 x H2 → ∃ Hf2, HR K H2 Hf2 ρ1 S1 ∧ Tr H1 Hf1 ρ1 H2 Hf2 ρ1 ∧ Dt K Hf2 ρ1 d x) ∧ (ds.length ≤ i → J.stop i H1)
def PostI (K : PySem.W.Frag) (W : WX) (σ : L2.St) (H Hf : Hp) (ρ : List Addr) (R : It → Hp → Prop) : Res (List D) → Prop
  | .ok ds S' => ∀ J H' Hf' ρ', HR K H' Hf' ρ' S' → Tr H Hf ρ H' Hf' ρ' → WalkD K J ds Hf' ρ' → R J H'
  | .exc x S' => PostX K W σ H Hf ρ x S'
  | .stk => False
def QI (X : Cx) (B : Gr) (W : WX) (tg it : Expr) (f : FA) : Prop := ∃ wi, PI X tg it wi ∧ ∀ n E S σ H Hf ρ R, Rel X.K B E S σ H Hf ρ → PostI X.K W σ H Hf ρ R (f n E S) → wi σ H R
theorem pi_or {X : Cx} {tg it : Expr} {w1 w2 : TI} (h1 : PI X tg it w1) (h2 : PI X tg it w2) : PI X tg it (fun σ H R => w1 σ H R ∨ w2 σ H R) :=
  ⟨fun pins s σ H R I h => h.elim (h1.run pins s σ H R I) (h2.run pins s σ H R I)⟩
/-- the items of a list or tuple -/
def fIt (f : FE) : FA := fun n E S => (f n E S).bind fun d S1 => match d with
  | .lst l => .ok l S1
  | .tup l => .ok l S1
  | .scr l => .ok (l.map D.int) S1
  | _ => .stk
theorem seq_inj {K : PySem.W.Frag} {H : Hp} {a : Addr} {xs ys : List V} (h : SqL K H a xs → True) : True := trivial
section
variable {K : PySem.W.Frag} {Hf : Hp} {ρ : List Addr}
/-- the list that stands frozen at a -/
theorem walk_list {a : Addr} {vs : List V} {l : List D} (h : Hf a = some (.lst vs)) (w : Dts K Hf ρ l vs) : WalkD K (Itl K a) l Hf ρ := by
  intro H1 Hf1 ρ1 S1 hr ex pr i
  have h1 : SqL K H1 a vs := SqL.of (hr.sub _ _ (ex _ _ h))
  refine ⟨fun d e => ?_, fun hl => ⟨vs, h1, by rw [← w.length]; exact hl⟩⟩
  obtain ⟨v, e1, e2⟩ := w.get e
  refine ⟨⟨vs, v, h1, e1⟩, fun x H2 y => ?_⟩
  obtain ⟨rfl, y⟩ := y
  have := y vs h1
  rw [e1] at this; cases this
  exact ⟨Hf1, hr, Tr.refl _ _ _, e2.mono ex pr⟩
theorem walk_tup {a : Addr} {vs : List V} {l : List D} (h : SqT K Hf a vs) (w : Dts K Hf ρ l vs) : WalkD K (Itt K a) l Hf ρ := by
  intro H1 Hf1 ρ1 S1 hr ex pr i
  have h1 : SqT K H1 a vs := hr.sub.sqT (ex.sqT h)
  refine ⟨fun d e => ?_, fun hl => ⟨vs, h1, by rw [← w.length]; exact hl⟩⟩
  obtain ⟨v, e1, e2⟩ := w.get e
  refine ⟨⟨vs, v, h1, e1⟩, fun x H2 y => ?_⟩
  obtain ⟨rfl, y⟩ := y
  have := y vs h1
  rw [e1] at this; cases this
  exact ⟨Hf1, hr, Tr.refl _ _ _, e2.mono ex pr⟩
theorem walk_scr {a : Addr} {l : List Int} (h : SqL K Hf a (l.map V.int)) : WalkD K (Itl K a) (l.map D.int) Hf ρ := by
  intro H1 Hf1 ρ1 S1 hr ex pr i
  have h1 : SqL K H1 a (l.map V.int) := hr.sub.sqL (ex.sqL h)
  have w : Dts K Hf ρ (l.map D.int) (l.map V.int) := Dts.ofInts l
  refine ⟨fun d e => ?_, fun hl => ⟨_, h1, by rw [← w.length]; exact hl⟩⟩
  obtain ⟨v, e1, e2⟩ := w.get e
  refine ⟨⟨_, v, h1, e1⟩, fun x H2 y => ?_⟩
  obtain ⟨rfl, y⟩ := y
  have := y _ h1
  rw [e1] at this; cases this
  exact ⟨Hf1, hr, Tr.refl _ _ _, e2.mono ex pr⟩
end
section
variable {X : Cx} {B : Gr} {W : WX} {tg e e2 : Expr} {fe fe2 : FE} {pos p1 : Pos} {fa : FA}
theorem i_seq (he : QE X B W e fe) : QI X B W tg e (fIt fe) := by
  obtain ⟨t, a1, a2⟩ := he
  refine ⟨_, pi_or (pi_list a1) (pi_tup a1), fun n E S σ H Hf ρ R r p => ?_⟩
  unfold fIt at p
  cases e1 : fe n E S with
  | stk => rw [e1] at p; exact p.elim
  | exc y S1 =>
    rw [e1] at p
    exact .inl (a2 n E S σ H Hf ρ _ r (by rw [e1]; exact p))
  | ok d S1 =>
    rw [e1] at p
    cases d <;> try exact p.elim
    · rename_i l
      refine .inr (a2 n E S σ H Hf ρ _ r ?_)
      rw [e1]
      intro v H' Hf' ρ' h1 h2 w
      obtain ⟨a, vs, rfl, w1, w2⟩ := (show Dt X.K Hf' ρ' (.tup l) v from w)
      exact ⟨a, rfl, ⟨vs, h1.sub.sqT w1⟩, p _ H' Hf' ρ' h1 h2 (walk_tup w1 w2)⟩
    · rename_i l
      refine .inl (a2 n E S σ H Hf ρ _ r ?_)
      rw [e1]
      intro v H' Hf' ρ' h1 h2 w
      obtain ⟨a, vs, rfl, w1, w2⟩ := (show Dt X.K Hf' ρ' (.lst l) v from w)
      exact ⟨a, rfl, ⟨vs, SqL.of (h1.sub _ _ w1)⟩, p _ H' Hf' ρ' h1 h2 (walk_list w1 w2)⟩
    · rename_i l
      refine .inl (a2 n E S σ H Hf ρ _ r ?_)
      rw [e1]
      intro v H' Hf' ρ' h1 h2 w
      obtain ⟨a, rfl, w1⟩ := (show Dt X.K Hf' ρ' (.scr l) v from w)
      exact ⟨a, rfl, ⟨_, h1.sub.sqL w1⟩, p _ H' Hf' ρ' h1 h2 (walk_scr w1)⟩
/-- lo, lo + 1, .. : n of them -/
def rngD (lo : Int) (n : Nat) : List D := (List.range n).map fun i : Nat => .int (lo + i)
def smallR (j : Int) : Bool := decide (-(2 ^ 62) ≤ j) && decide (j < 2 ^ 62)
/-- by the arguments' data -/
def fLift (h : List D → Option (List D)) (f : FA) : FA := fun n E S => (f n E S).bind fun ds S1 => match h ds with
  | some l => .ok l S1
  | none => .stk
def rng1? : List D → Option (List D)
  | [.int j] => if smallR j = true then some (rngD 0 j.toNat) else none
  | _ => none
def rng2? : List D → Option (List D)
  | [.int i, .int j] => if (smallR i && smallR j) = true then some (rngD i (j - i).toNat) else none
  | _ => none
theorem lift_post {K : PySem.W.Frag} {σ : L2.St} {H Hf : Hp} {ρ : List Addr} {R : It → Hp → Prop} {h : List D → Option (List D)} {n : Nat} {E : Env} {S : Store} {Q : List V → Hp → Prop}
    (p : PostI K W σ H Hf ρ R (fLift h fa n E S))
    (q : ∀ ds l S1 vs H' Hf' ρ', h ds = some l → HR K H' Hf' ρ' S1 → Tr H Hf ρ H' Hf' ρ' → Dts K Hf' ρ' ds vs → (∀ J H2 Hf2 ρ2, HR K H2 Hf2 ρ2 S1 → Tr H Hf ρ H2 Hf2 ρ2 → WalkD K J l Hf2 ρ2 → R J H2) → Q vs H') : PostA K W σ H Hf ρ Q (fa n E S) := by
  unfold fLift at p
  cases e1 : fa n E S with
  | stk => rw [e1] at p; exact p.elim
  | exc y S1 => rw [e1] at p; exact p
  | ok ds S1 =>
    rw [e1] at p
    intro vs H' Hf' ρ' h1 h2 w
    have p : PostI K W σ H Hf ρ R (match h ds with | some l => .ok l S1 | none => .stk) := p
    cases e2 : h ds with
    | none => rw [e2] at p; exact p.elim
    | some l => rw [e2] at p; exact q ds l S1 vs H' Hf' ρ' e2 h1 h2 w p
theorem walk_rng {K : PySem.W.Frag} {lo : Int} {n : Nat} {Hf : Hp} {ρ : List Addr} : WalkD K (Itr lo n) (rngD lo n) Hf ρ := by
  intro H1 Hf1 ρ1 S1 hr ex pr i
  unfold rngD
  refine ⟨fun d e => ?_, fun hl => (by simpa using hl : n ≤ i)⟩
  rw [List.getElem?_map] at e
  cases z : (List.range n)[i]? with
  | none => rw [z] at e; cases e
  | some j =>
    rw [z] at e
    obtain ⟨hj, ej⟩ := List.getElem?_eq_some_iff.mp z
    simp at hj ej
    cases e
    refine ⟨hj, fun x H2 y => ?_⟩
    obtain ⟨rfl, rfl⟩ := y
    exact ⟨Hf1, hr, Tr.refl _ _ _, by rw [ej]; rfl⟩
theorem i_r1 {a : Expr} (hb : Blt X "range") (ha : QA X B W [a] fa) (hs : starEach [a] X.env = [(false, eval a X.env)]) : QI X B W tg (.Call (.Name "range" p1) [a] [] pos) (fLift rng1? fa) := by
  obtain ⟨t, a1, a2⟩ := ha
  refine ⟨_, pi_range1 hb.gl hb.free a1 hs, fun n E S σ H Hf ρ R r p => a2 n E S σ H Hf ρ _ r (lift_post p fun ds l S1 vs H' Hf' ρ' e h1 h2 w k => ?_)⟩
  unfold rng1? at e
  split at e
  · rename_i j
    split at e
    · rename_i hc
      cases e
      unfold smallR at hc
      simp only [Bool.and_eq_true, decide_eq_true_eq] at hc
      obtain ⟨v1, r1, rfl, w1, w2⟩ := w
      cases w2
      have w1 : v1 = .int j := w1
      exact ⟨j, by rw [w1], hc.1, hc.2, k _ H' Hf' ρ' h1 h2 walk_rng⟩
    · cases e
  · cases e
theorem i_r2 {a b : Expr} (hb : Blt X "range") (ha : QA X B W [a, b] fa) (hs : starEach [a, b] X.env = [(false, eval a X.env), (false, eval b X.env)]) (hs2 : starEach [b] X.env = [(false, eval b X.env)]) : QI X B W tg (.Call (.Name "range" p1) [a, b] [] pos) (fLift rng2? fa) := by
  obtain ⟨t, a1, a2⟩ := ha
  refine ⟨_, pi_range2 hb.gl hb.free a1 hs hs2, fun n E S σ H Hf ρ R r p => a2 n E S σ H Hf ρ _ r (lift_post p fun ds l S1 vs H' Hf' ρ' e h1 h2 w k => ?_)⟩
  unfold rng2? at e
  split at e
  · rename_i i j
    split at e
    · rename_i hc
      cases e
      unfold smallR at hc
      simp only [Bool.and_eq_true, decide_eq_true_eq] at hc
      obtain ⟨v1, r1, rfl, w1, w2⟩ := w
      obtain ⟨v2, r2, rfl, w2, w3⟩ := w2
      cases w3
      have w1 : v1 = .int i := w1
      have w2 : v2 = .int j := w2
      exact ⟨i, j, by rw [w1, w2], ⟨hc.1.1, hc.1.2, hc.2.1, hc.2.2⟩, k _ H' Hf' ρ' h1 h2 walk_rng⟩
    · cases e
  · cases e
/-- zip of two lists, of two tuples -/
def zipD : List D → List D → List D
  | a :: l, b :: m => .tup [a, b] :: zipD l m
  | _, _ => []
def zip? : List D → Option (List D)
  | [.lst l, .lst m] => some (zipD l m)
  | [.tup l, .tup m] => some (zipD l m)
  | _ => none
theorem zipD_get : ∀ {l m : List D} {i : Nat} {d : D}, (zipD l m)[i]? = some d → ∃ a b, l[i]? = some a ∧ m[i]? = some b ∧ d = .tup [a, b]
  | [], m, i, d, h => by simp [zipD] at h
  | a :: l, [], i, d, h => by simp [zipD] at h
  | a :: l, b :: m, 0, d, h => by simp [zipD] at h; exact ⟨a, b, rfl, rfl, h.symm⟩
  | a :: l, b :: m, i + 1, d, h => by
    obtain ⟨x, y, h1, h2, h3⟩ := zipD_get (l := l) (m := m) (i := i) (d := d) (by simpa [zipD] using h)
    exact ⟨x, y, by simpa using h1, by simpa using h2, h3⟩
theorem zipD_len : ∀ (l m : List D), (zipD l m).length = min l.length m.length
  | [], m => by simp [zipD]
  | a :: l, [] => by simp [zipD]
  | a :: l, b :: m => by simp only [zipD, List.length_cons, zipD_len l m]; omega
theorem pair_new {K : PySem.W.Frag} {H1 Hf1 : Hp} {ρ1 : List Addr} {S1 : Store} {a b : D} {x y : V} {T : Addr} (hr : HR K H1 Hf1 ρ1 S1) (hT : H1 T = none) (wa : Dt K Hf1 ρ1 a x) (wb : Dt K Hf1 ρ1 b y) :
    ∃ Hf2, HR K (upd H1 T (.tup [x, y])) Hf2 ρ1 S1 ∧ Tr H1 Hf1 ρ1 (upd H1 T (.tup [x, y])) Hf2 ρ1 ∧ Dt K Hf2 ρ1 (.tup [a, b]) (.ref T) := by
  have t := Tr.new (ρ := ρ1) (o := .tup [x, y]) hT hr.sub
  exact ⟨_, hr.new hT (hr.notin hT), t, T, [x, y], rfl, SqT.of upd_same, x, [y], rfl, wa.mono t.hf (Pre.refl _), y, [], rfl, wb.mono t.hf (Pre.refl _), rfl⟩
theorem i_zip {elts : List Expr} {kk : Nat} {tpos : Pos} (hb : Blt X "zip") (ha : QA X B W [e, e2] fa)
    (hs : starEach [e, e2] X.env = (false, eval e X.env) :: starEach [e2] X.env) (hpl : (backTo pos (starEach [e2] X.env)).any (·.1) = false) : QI X B W (.Tuple elts kk tpos) (.Call (.Name "zip" p1) [e, e2] [] pos) (fLift zip? fa) := by
  obtain ⟨t, a1, a2⟩ := ha
  refine ⟨_, RZ.pi_zipA hb.gl hb.free a1 hs hpl, fun n E S σ H Hf ρ R r p => a2 n E S σ H Hf ρ _ r (lift_post p fun ds l S1 vs H' Hf' ρ' e h1 h2 w k => ?_)⟩
  unfold zip? at e
  split at e
  · rename_i l m
    cases e
    obtain ⟨v1, r1, rfl, w1, w2⟩ := w
    obtain ⟨v2, r2, rfl, w2, w3⟩ := w2
    cases w3
    obtain ⟨a, xs, rfl, k1, k2⟩ := (show Dt X.K Hf' ρ' (.lst l) v1 from w1)
    obtain ⟨b, ys, rfl, k3, k4⟩ := (show Dt X.K Hf' ρ' (.lst m) v2 from w2)
    refine ⟨a, b, xs, ys, rfl, .inl ⟨SqL.of (h1.sub _ _ k1), SqL.of (h1.sub _ _ k3), k _ H' Hf' ρ' h1 h2 ?_⟩⟩
    intro H1 Hf1 ρ1 S1 hr ex pr i
    have g1 : SqL X.K H1 a xs := SqL.of (hr.sub _ _ (ex _ _ k1))
    have g2 : SqL X.K H1 b ys := SqL.of (hr.sub _ _ (ex _ _ k3))
    refine ⟨fun d e => ?_, fun hl => ⟨xs, ys, g1, g2, ?_⟩⟩
    · obtain ⟨da, db, x1, x2, rfl⟩ := zipD_get e
      obtain ⟨va, y1, y2⟩ := k2.get x1
      obtain ⟨vb, y3, y4⟩ := k4.get x2
      refine ⟨⟨xs, ys, va, vb, g1, g2, y1, y3⟩, fun x H2 y => ?_⟩
      obtain ⟨T, u1, u2, rfl, hT, rfl, z1, z2⟩ := y
      have z1 := z1 xs g1
      have z2 := z2 ys g2
      rw [y1] at z1; cases z1
      rw [y3] at z2; cases z2
      exact pair_new hr hT (y2.mono ex pr) (y4.mono ex pr)
    · rw [zipD_len] at hl
      rw [← k2.length, ← k4.length]
      omega
  · rename_i l m
    cases e
    obtain ⟨v1, r1, rfl, w1, w2⟩ := w
    obtain ⟨v2, r2, rfl, w2, w3⟩ := w2
    cases w3
    obtain ⟨a, xs, rfl, k1, k2⟩ := (show Dt X.K Hf' ρ' (.tup l) v1 from w1)
    obtain ⟨b, ys, rfl, k3, k4⟩ := (show Dt X.K Hf' ρ' (.tup m) v2 from w2)
    refine ⟨a, b, xs, ys, rfl, .inr ⟨h1.sub.sqT k1, h1.sub.sqT k3, k _ H' Hf' ρ' h1 h2 ?_⟩⟩
    intro H1 Hf1 ρ1 S1 hr ex pr i
    have g1 : SqT X.K H1 a xs := hr.sub.sqT (ex.sqT k1)
    have g2 : SqT X.K H1 b ys := hr.sub.sqT (ex.sqT k3)
    refine ⟨fun d e => ?_, fun hl => ⟨xs, ys, g1, g2, ?_⟩⟩
    · obtain ⟨da, db, x1, x2, rfl⟩ := zipD_get e
      obtain ⟨va, y1, y2⟩ := k2.get x1
      obtain ⟨vb, y3, y4⟩ := k4.get x2
      refine ⟨⟨xs, ys, va, vb, g1, g2, y1, y3⟩, fun x H2 y => ?_⟩
      obtain ⟨T, u1, u2, rfl, hT, rfl, z1, z2⟩ := y
      have z1 := z1 xs g1
      have z2 := z2 ys g2
      rw [y1] at z1; cases z1
      rw [y3] at z2; cases z2
      exact pair_new hr hT (y2.mono ex pr) (y4.mono ex pr)
    · rw [zipD_len] at hl
      rw [← k2.length, ← k4.length]
      omega
  · cases e
end
end DL

end

section
set_option autoImplicit false
set_option autoImplicit false
namespace DL
open PySem PySem.Spec PyProof.Rows L2

/-! ### for, while -/
def forL (g : Tgt) (b : Env → Store → SRes) : List D → Env → Store → SRes
  | [], E, S => .nx E S
  | d :: ds, E, S => match g d E with
    | none => .stk
    | some E1 => match b E1 S with
      | .nx E2 S2 => forL g b ds E2 S2
      | .ct E2 S2 => forL g b ds E2 S2
      | .bk E2 S2 => .nx E2 S2
      | r => r
def fFor (it : FA) (g : Tgt) (b : FS) : FS := fun n E S => match it n E S with
  | .ok ds S1 => forL g (b n) ds E S1
  | .exc x S1 => .ex x E S1
  | .stk => .stk
def whileL (c : Env → Store → Res Bool) (b : Env → Store → SRes) : Nat → Env → Store → SRes
  | 0, _, _ => .stk
  | k + 1, E, S => match c E S with
    | .ok true S1 => match b E S1 with
      | .nx E2 S2 => whileL c b k E2 S2
      | .ct E2 S2 => whileL c b k E2 S2
      | .bk E2 S2 => .nx E2 S2
      | r => r
    | .ok false S1 => .nx E S1
    | .exc x S1 => .ex x E S1
    | .stk => .stk
def fWhile (c : FT) (b : FS) : FS := fun n E S => whileL (c n) (b n) n E S
section
variable {X : Cx} {B : Gr} {W : WX} {pos : Pos} {tg it c : Expr} {body : List Stmt} {is : List Nat} {fi : FA} {g : Tgt} {b : FS} {ft : FT}
theorem s_for (cc : Cc X W) (hi : QI X B W tg it fi) (hg : QG X B tg is g) (hb : QSs X B W body b) (hs : ∀ x, foldedSetIterable it X.env x = pure x) : QS X B W (.For tg it body [] pos) (fFor fi g b) := by
  obtain ⟨wi, i1, i2⟩ := hi
  obtain ⟨t, g1, g2⟩ := hg
  obtain ⟨tb, b1, b2⟩ := hb
  refine ⟨_, ps_for cc.po cc.calm i1 g1 b1 hs, fun n E S σ H Hf ρ Q r p => i2 n E S σ H Hf ρ _ r ?_⟩
  unfold fFor at p
  cases e1 : fi n E S with
  | stk => rw [e1] at p; exact p
  | exc y S1 => rw [e1] at p; exact fun c od H' Hf' ρ' a b d => p c od σ H' Hf' ρ' (r.step a b) b.hf b.pre d
  | ok ds S1 =>
    rw [e1] at p
    intro J H1 Hf1 ρ1 hr1 t1 wk
    have p : PostS X.K W B Hf1 ρ1 Q (forL g (b n) ds E S1) := PostS.mono t1.hf t1.pre p
    let Wi : Nat → Nat → L2.St → Hp → Prop := fun i m σ H => ∃ E S Hf ρ, Rel X.K B E S σ H Hf ρ ∧ Ext Hf1 Hf ∧ Pre ρ1 ρ ∧ m = ds.length - i ∧ PostS X.K W B Hf ρ Q (forL g (b n) (ds.drop i) E S)
    refine ⟨Wi, ⟨ds.length, E, S1, Hf1, ρ1, r.step hr1 t1, Ext.refl _, Pre.refl _, by simp, by simpa using p⟩, ?_⟩
    rintro i m σ2 H2 ⟨E2, S2, Hf2, ρ2, r2, ex2, pr2, rfl, p2⟩
    obtain ⟨k1, k2⟩ := wk H2 Hf2 ρ2 S2 r2.hr ex2 pr2 i
    by_cases hi : i < ds.length
    · obtain ⟨go, yl⟩ := k1 ds[i] (List.getElem?_eq_getElem hi)
      have ed : ds.drop i = ds[i] :: ds.drop (i + 1) := List.drop_eq_getElem_cons hi
      rw [ed] at p2
      refine .inr ⟨go, Wi (i + 1) (ds.length - (i + 1)), fun σ' H' w => ⟨ds.length - (i + 1), by omega, w⟩, fun x H3 y => ?_⟩
      obtain ⟨Hf3, hr3, t3, w3⟩ := yl x H3 y
      have r3 := r2.step hr3 t3
      unfold forL at p2
      cases eg : g ds[i] E2 with
      | none => rw [eg] at p2; exact p2.elim
      | some E3 =>
        rw [eg] at p2
        refine g2 ds[i] E2 E3 S2 σ2 H3 Hf3 ρ2 x _ r3 w3 eg fun σ4 r4 _ => ?_
        refine b2 n E3 S2 σ4 H3 Hf3 ρ2 _ r4 ?_
        have p2 : PostS X.K W B Hf3 ρ2 Q (match b n E3 S2 with
          | .nx E2 S2 => forL g (b n) (ds.drop (i + 1)) E2 S2
          | .ct E2 S2 => forL g (b n) (ds.drop (i + 1)) E2 S2
          | .bk E2 S2 => .nx E2 S2
          | r => r) := PostS.mono t3.hf t3.pre p2
        cases eb : b n E3 S2 with
        | nx E5 S5 =>
          rw [eb] at p2
          exact fun σ5 H5 Hf5 ρ5 r5 ex5 pr5 => ⟨E5, S5, Hf5, ρ5, r5, (ex2.trans t3.hf).trans ex5, pr2.trans pr5, rfl, PostS.mono ex5 pr5 p2⟩
        | ct E5 S5 =>
          rw [eb] at p2
          exact fun σ5 H5 Hf5 ρ5 r5 ex5 pr5 => ⟨E5, S5, Hf5, ρ5, r5, (ex2.trans t3.hf).trans ex5, pr2.trans pr5, rfl, PostS.mono ex5 pr5 p2⟩
        | bk E5 S5 => rw [eb] at p2; exact p2
        | rt d S5 => rw [eb] at p2; exact p2
        | ex y E5 S5 => rw [eb] at p2; exact p2
        | stk => rw [eb] at p2; exact p2
    · refine .inl ⟨k2 (by omega), ?_⟩
      rw [List.drop_eq_nil_of_le (by omega)] at p2
      exact p2 σ2 H2 Hf2 ρ2 r2 (Ext.refl _) (Pre.refl _)
theorem s_while (cc : Cc X W) (hc : QT X B W c ft) (hb : QSs X B W body b) : QS X B W (.While c body [] pos) (fWhile ft b) := by
  obtain ⟨tc, c1, c2⟩ := hc
  obtain ⟨tb, b1, b2⟩ := hb
  refine ⟨_, ps_while cc.po c1 b1, fun n E S σ H Hf ρ Q r p => ?_⟩
  have p : PostS X.K W B Hf ρ Q (whileL (ft n) (b n) n E S) := p
  let Wi : Nat → L2.St → Hp → Prop := fun m σ H => ∃ E S Hf ρ, Rel X.K B E S σ H Hf ρ ∧ PostS X.K W B Hf ρ Q (whileL (ft n) (b n) m E S)
  refine ⟨Wi, ⟨n, E, S, Hf, ρ, r, p⟩, ?_⟩
  rintro m σ1 H1 ⟨E1, S1, Hf1, ρ1, r1, p1⟩
  cases m with
  | zero => exact p1.elim
  | succ m =>
    refine c2 n E1 S1 σ1 H1 Hf1 ρ1 _ r1 ?_
    unfold whileL at p1
    cases e1 : ft n E1 S1 with
    | stk => rw [e1] at p1; exact p1
    | exc y S2 => rw [e1] at p1; exact fun c od H' Hf' ρ' a b d => p1 c od σ1 H' Hf' ρ' (r1.step a b) b.hf b.pre d
    | ok k S2 =>
      rw [e1] at p1
      intro H2 Hf2 ρ2 h1 h2
      have r2 := r1.step h1 h2
      cases k with
      | false =>
        rw [if_neg Bool.false_ne_true]
        exact p1 σ1 H2 Hf2 ρ2 r2 h2.hf h2.pre
      | true =>
        rw [if_pos rfl]
        refine ⟨Wi m, fun σ' H' w => ⟨m, Nat.lt_succ_self m, w⟩, b2 n E1 S2 σ1 H2 Hf2 ρ2 _ r2 ?_⟩
        have p2 : PostS X.K W B Hf2 ρ2 Q (match b n E1 S2 with
          | .nx E2 S2 => whileL (ft n) (b n) m E2 S2
          | .ct E2 S2 => whileL (ft n) (b n) m E2 S2
          | .bk E2 S2 => .nx E2 S2
          | r => r) := PostS.mono h2.hf h2.pre p1
        cases eb : b n E1 S2 with
        | nx E5 S5 =>
          rw [eb] at p2
          exact fun σ5 H5 Hf5 ρ5 r5 ex5 pr5 => ⟨E5, S5, Hf5, ρ5, r5, PostS.mono ex5 pr5 p2⟩
        | ct E5 S5 =>
          rw [eb] at p2
          exact fun σ5 H5 Hf5 ρ5 r5 ex5 pr5 => ⟨E5, S5, Hf5, ρ5, r5, PostS.mono ex5 pr5 p2⟩
        | bk E5 S5 => rw [eb] at p2; exact p2
        | rt d S5 => rw [eb] at p2; exact p2
        | ex y E5 S5 => rw [eb] at p2; exact p2
        | stk => rw [eb] at p2; exact p2
def fBrk : FS := fun _ E S => .bk E S
def fCnt : FS := fun _ E S => .ct E S
theorem s_break : QS X B W (.Break pos) fBrk := ⟨_, ps_break, fun n E S σ H Hf ρ Q r p => p σ H Hf ρ r (Ext.refl _) (Pre.refl _)⟩
theorem s_cont : QS X B W (.Continue pos) fCnt := ⟨_, ps_continue, fun n E S σ H Hf ρ Q r p => p σ H Hf ρ r (Ext.refl _) (Pre.refl _)⟩
theorem s_pass : QS X B W (.Pass pos) fSkip := ⟨_, ps_pass, fun n E S σ H Hf ρ Q r p => p σ H Hf ρ r (Ext.refl _) (Pre.refl _)⟩
end
end DL

end

section
set_option autoImplicit false
set_option autoImplicit false
namespace DL
open PySem PySem.Spec PyProof.Rows L2

/-! ### lists that change -/
/-- name.append(value), the list one's own -/
def fApp (i : Nat) (f : FE) : FS := fun n E S => match E[i]? with
  | some (some (.own (.lst l))) => match f n E S with
    | .ok d S1 => if l.length < 1000000 then .nx (E.set i (some (.own (.lst (l ++ [d]))))) S1 else .stk
    | .exc x S1 => .ex x E S1
    | .stk => .stk
  | _ => .stk
/-- name[k] = value, the list one's own -/
def fSetIx (i : Nat) (fk fv : FE) : FS := fun n E S => match fv n E S with
  | .ok d S1 => match E[i]? with
    | some (some (.own (.lst l))) => match fk n E S1 with
      | .ok (.int k) S2 => match ixN l.length k with
        | some j => .nx (E.set i (some (.own (.lst (l.set j d))))) S2
        | none => .stk
      | .ok _ _ => .stk
      | .exc x S1 => .ex x E S1
      | .stk => .stk
    | _ => .stk
  | .exc x S1 => .ex x E S1
  | .stk => .stk
/-- name[k] = value, the list held by several -/
def fSetIxH (i : Nat) (k : Int) (fv : FE) : FS := fun n E S => match fv n E S with
  | .ok d S1 => match E[i]? with
    | some (some (.fz (.hd h))) => match S1[h]? with
      | some (.lst l) => match ixN l.length k with
        | some j => .nx E (S1.set h (.lst (l.set j d)))
        | none => .stk
      | _ => .stk
    | _ => .stk
  | .exc x S1 => .ex x E S1
  | .stk => .stk
/-- name[k], the list held by several -/
def fIxH (i : Nat) (k : Int) : FE := fun _ E S => match E[i]? with
  | some (some (.fz (.hd h))) => match S[h]? with
    | some (.lst l) => match atI l k with
      | some d => .ok d S
      | none => .stk
    | _ => .stk
  | _ => .stk
section
variable {X : Cx} {B : Gr} {W : WX} {pos pos' p1 p2 p3 : Pos} {e k : Expr} {fe fk : FE} {x : Str} {i : Nat}
theorem upd_len {xs ys : List V} : True := trivial
theorem s_app (v : Vr X i x) (he : QE X B W e fe)
    (hbase : attributeBase (.Name x p1) "append" X.env (eval (.Name x p1) X.env) = eval (.Name x p1) X.env)
    (hfew : ((backTo pos' (starEach [e] X.env)).all (fun x => !x.1) && (backToKw pos' (keywordEach [] X.env)).all (fun x => x.1.isSome)
      && decide (([e] : List Expr).length + ([] : List Keyword).length + (if ([] : List Keyword).isEmpty then 0 else 1) < 30)) = true)
    (hline : (p2.endLine == pos'.line) = true) (hs : starEach [e] X.env = (false, eval e X.env) :: starEach [] X.env) (hplain : (backTo pos' (starEach [] X.env)).any (·.1) = false) :
    QS X B W (.Expr (.Call (.Attribute (.Name x p1) "append" p2) [e] [] pos') pos) (fApp i fe) := by
  obtain ⟨t, a1, a2⟩ := he
  have hp : PE X (.Call (.Attribute (.Name x p1) "append" p2) [e] [] pos') _ := pe_bm PySem.F.plainAttrs_list PySem.F.slot_list_append PySem.F.type_list_append mt_append (pe_var v.ix v.vis v.db v.cd) (pa_cons a1 pa_nil hs) hbase hfew hline hs hplain
  refine ⟨_, ps_expr hp, fun n E S σ H Hf ρ Q r p => ?_⟩
  unfold fApp at p
  split at p
  · rename_i l el
    obtain ⟨a, h1, h2, h3, h4, vs, h5, h6⟩ := r.sl i _ el
    refine ⟨.ref a, h1, .inl ⟨rfl, vs, SqL.of h5⟩, a2 n E S σ H Hf ρ _ r ?_⟩
    cases e1 : fe n E S with
    | stk => rw [e1] at p; exact p
    | exc y S1 => rw [e1] at p; exact fun c od H' Hf' ρ' a b d => p c od σ H' Hf' ρ' (r.step a b) b.hf b.pre d
    | ok d S1 =>
      rw [e1] at p
      intro u H' Hf' ρ' k1 k2 w
      have p : PostS X.K W B Hf ρ Q (if l.length < 1000000 then .nx (E.set i (some (.own (.lst (l ++ [d]))))) S1 else .stk) := p
      by_cases hl : l.length < 1000000
      · rw [if_pos hl] at p
        have r' := r.step k1 k2
        obtain ⟨a', g1, g2, g3, g4, us, g5, g6⟩ := r'.sl i _ el
        rw [h1] at g1; cases g1
        refine ⟨a, us, u, rfl, rfl, g5, ?_, ?_⟩
        · rw [← g6.length]; exact Nat.lt_of_lt_of_le hl (by decide)
        · exact p _ _ _ _ (r'.updOwn el h1 g2 g3 g4 ⟨us ++ [u], upd_same, g6.append (Dts.one w)⟩) k2.hf k2.pre
      · rw [if_neg hl] at p; exact p.elim
  · exact p.elim
theorem s_setIx (v : Vr X i x) (hk : QE X B W k fk) (he : QE X B W e fe) (ha : ∀ v, assign (.Subscript (.Name x p1) k p2) X.env v = (do
      let ov ← holding [v] (eval (.Name x p1) X.env)
      let iv ← holding [v, ov] (eval k X.env)
      standAt p2
      holding [v, ov, iv] (setItem ov iv v)
      release [v, ov, iv] []))
    (hs : swapsWithSole [.Subscript (.Name x p1) k p2] e pos.line X.env = pure false) (hw : swappedStores [.Subscript (.Name x p1) k p2] e X.env = pure none)
    (h1 : (assignEach [.Subscript (.Name x p1) k p2] X.env).map (·.2) = [assign (.Subscript (.Name x p1) k p2) X.env]) : QS X B W (.Assign [.Subscript (.Name x p1) k p2] e pos) (fSetIx i fk fe) := by
  obtain ⟨t, a1, a2⟩ := he
  obtain ⟨u, b1, b2⟩ := hk
  refine ⟨_, ps_asg a1 (pg_sub (pe_var v.ix v.vis v.db v.cd) b1 set_list ha) hs hw h1, fun n E S σ H Hf ρ Q r p => a2 n E S σ H Hf ρ _ r ?_⟩
  unfold fSetIx at p
  cases e1 : fe n E S with
  | stk => rw [e1] at p; exact p
  | exc y S1 => rw [e1] at p; exact fun c od H' Hf' ρ' a b d => p c od σ H' Hf' ρ' (r.step a b) b.hf b.pre d
  | ok d S1 =>
    rw [e1] at p
    intro v H1 Hf1 ρ1 hr1 t1 w1
    have r1 := r.step hr1 t1
    dsimp only at p
    split at p
    · rename_i l el
      obtain ⟨a, h1, h2, h3, h4, vs, h5, h6⟩ := r1.sl i _ el
      refine ⟨.ref a, h1, b2 n E S1 σ H1 Hf1 ρ1 _ r1 ?_⟩
      cases e2 : fk n E S1 with
      | stk => rw [e2] at p; exact p
      | exc y S2 => rw [e2] at p; exact fun c od H' Hf' ρ' a b d => p c od σ H' Hf' ρ' (r1.step a b) (t1.hf.trans b.hf) (t1.pre.trans b.pre) d
      | ok dk S2 =>
        rw [e2] at p
        intro z H2 Hf2 ρ2 hr2 t2 w2
        have r2 := r1.step hr2 t2
        cases dk <;> try exact p.elim
        rename_i kk
        have w2 : z = .int kk := w2
        dsimp only at p
        split at p
        · rename_i j hj
          obtain ⟨a', g1, g2, g3, g4, us, g5, g6⟩ := r2.sl i _ el
          rw [h1] at g1; cases g1
          refine ⟨a, us, kk, j, rfl, w2, g5, by rw [← g6.length]; exact hj, ?_⟩
          exact p _ _ _ _ (r2.updOwn el h1 g2 g3 g4 ⟨us.set j v, upd_same, g6.set j (w1.mono t2.hf t2.pre)⟩) (t1.hf.trans t2.hf) (t1.pre.trans t2.pre)
        · exact p.elim
    · exact p.elim
/-- a cell of the store is written -/
theorem Rel.cell {K : PySem.W.Frag} {B : Gr} {E : Env} {S : Store} {σ : L2.St} {H Hf : Hp} {ρ : List Addr} (r : Rel K B E S σ H Hf ρ) {h : Nat} {a : Addr} {c : Cell} {o : HO} (ha : ρ[h]? = some a)
    (hc : CellOk K Hf ρ (upd H a o) a c) : Rel K B E (S.set h c) σ (upd H a o) Hf ρ := by
  have am : a ∈ ρ := mem_of_get ha
  have hfa : Hf a = none := r.hr.hd h a ha
  refine ⟨⟨fun b u e => ?_, by rw [List.length_set]; exact r.hr.len, r.hr.nd, r.hr.hd, fun n b c' e1 e2 => ?_⟩, ⟨r.tr.hf, r.tr.pre, fun b u hb hbn => ?_, r.tr.fresh, r.tr.newh, fun b hb => ?_⟩, r.len, fun i s e => ?_, r.dis⟩
  · have : b ≠ a := fun z => by subst z; rw [hfa] at e; cases e
    rw [upd_ne this]; exact r.hr.sub b u e
  · by_cases hn : h = n
    · subst hn
      rw [ha] at e1; cases e1
      have hl : h < S.length := by rw [← r.hr.len]; exact (List.getElem?_eq_some_iff.mp ha).1
      rw [List.getElem?_set_self hl] at e2
      cases e2
      exact hc
    · rw [List.getElem?_set_ne hn] at e2
      have q := r.hr.cell n b c' e1 e2
      have ne : b ≠ a := fun z => hn (by subst z; exact r.hr.nd h n _ ha e1)
      cases c' with
      | lst l => obtain ⟨vs, x, y⟩ := q; exact ⟨vs, by rw [upd_ne ne]; exact x, y⟩
      | ins C fs => obtain ⟨dx, gs, x, y⟩ := q; exact ⟨dx, gs, by rw [upd_ne ne]; exact x, y⟩
  · have : b ≠ a := fun z => by
      subst z
      rcases r.tr.newh b am with z | z
      · exact hbn z
      · rw [hb] at z; cases z
    rw [upd_ne this]; exact r.tr.keep b u hb hbn
  · by_cases z : b = a
    · subst z; rw [upd_same]; simp
    · rw [upd_ne z]; exact r.tr.alive b hb
  · have q := r.sl i s e
    cases s with
    | fz d => exact q
    | own d =>
      obtain ⟨b, q1, q2, q3, q4, q5⟩ := q
      have ne : b ≠ a := fun z => q4 (z ▸ am)
      refine ⟨b, q1, q2, q3, q4, ?_⟩
      cases d with
      | lst l => obtain ⟨vs, x, y⟩ := q5; exact ⟨vs, by rw [upd_ne ne]; exact x, y⟩
      | dct l => obtain ⟨vs, x, y⟩ := q5; exact ⟨vs, by rw [upd_ne ne]; exact x, y⟩
      | _ => exact q5.elim
theorem s_setIxH {z : Int} {j : Nat} (v : Vr X i x) (he : QE X B W e fe) (ha : ∀ v, assign (.Subscript (.Name x p1) (.Constant (.int z) j p3) p2) X.env v = (do
      let ov ← holding [v] (eval (.Name x p1) X.env)
      let iv ← holding [v, ov] (eval (.Constant (.int z) j p3) X.env)
      standAt p2
      holding [v, ov, iv] (setItem ov iv v)
      release [v, ov, iv] []))
    (hs : swapsWithSole [.Subscript (.Name x p1) (.Constant (.int z) j p3) p2] e pos.line X.env = pure false) (hw : swappedStores [.Subscript (.Name x p1) (.Constant (.int z) j p3) p2] e X.env = pure none)
    (h1 : (assignEach [.Subscript (.Name x p1) (.Constant (.int z) j p3) p2] X.env).map (·.2) = [assign (.Subscript (.Name x p1) (.Constant (.int z) j p3) p2) X.env]) : QS X B W (.Assign [.Subscript (.Name x p1) (.Constant (.int z) j p3) p2] e pos) (fSetIxH i z fe) := by
  obtain ⟨t, a1, a2⟩ := he
  refine ⟨_, ps_asg a1 (pg_sub (pe_var v.ix v.vis v.db v.cd) pe_int set_list ha) hs hw h1, fun n E S σ H Hf ρ Q r p => a2 n E S σ H Hf ρ _ r ?_⟩
  unfold fSetIxH at p
  cases e1 : fe n E S with
  | stk => rw [e1] at p; exact p
  | exc y S1 => rw [e1] at p; exact fun c od H' Hf' ρ' a b d => p c od σ H' Hf' ρ' (r.step a b) b.hf b.pre d
  | ok d S1 =>
    rw [e1] at p
    intro v H1 Hf1 ρ1 hr1 t1 w1
    have r1 := r.step hr1 t1
    dsimp only at p
    split at p
    · rename_i h el
      obtain ⟨u, k1, k2⟩ := r1.sl i _ el
      obtain ⟨a, k3, rfl⟩ := k2
      split at p
      · rename_i l ec
        obtain ⟨vs, c1, c2⟩ := hr1.cell h a _ k3 ec
        split at p
        · rename_i jj hj
          refine ⟨.ref a, k1, a, vs, z, jj, rfl, rfl, c1, by rw [← c2.length]; exact hj, ?_⟩
          exact p _ _ _ _ (r1.cell k3 ⟨vs.set jj v, upd_same, c2.set jj w1⟩) t1.hf t1.pre
        · exact p.elim
      · exact p.elim
    · exact p.elim
theorem q_ixH {z : Int} {j : Nat} (v : Vr X i x) (hs : PlainIx (.Constant (.int z) j p2)) : QE X B W (.Subscript (.Name x p1) (.Constant (.int z) j p2) pos) (fIxH i z) := by
  refine ⟨_, pe_ix ix_list (pe_var v.ix v.vis v.db v.cd) pe_int hs, fun n E S σ H Hf ρ Q r p => ?_⟩
  unfold fIxH at p
  split at p
  · rename_i h el
    obtain ⟨u, k1, k2⟩ := r.sl i _ el
    obtain ⟨a, k3, rfl⟩ := k2
    split at p
    · rename_i l ec
      obtain ⟨vs, c1, c2⟩ := r.hr.cell h a _ k3 ec
      split at p
      · rename_i d ed
        obtain ⟨w, g1, g2⟩ := c2.atI ed
        exact ⟨.ref a, k1, a, vs, z, w, rfl, rfl, SqL.of c1, g1, p _ _ _ _ r.hr (Tr.refl _ _ _) g2⟩
      · exact p.elim
    · exact p.elim
  · exact p.elim
end
end DL

end

section
set_option autoImplicit false
set_option autoImplicit false
namespace DL
open PySem PySem.Spec PyProof.Rows L2

/-! ### one reading for all contexts -/
def canE (K : PySem.W.Frag) (B : Gr) (W : WX) (f : FE) : TE := fun σ H Q => ∃ n E S Hf ρ, Rel K B E S σ H Hf ρ ∧ PostE K W σ H Hf ρ Q (f n E S)
def canT (K : PySem.W.Frag) (B : Gr) (W : WX) (f : FT) : TT := fun σ H Q => ∃ n E S Hf ρ, Rel K B E S σ H Hf ρ ∧ PostT K W σ H Hf ρ Q (f n E S)
def canG (K : PySem.W.Frag) (B : Gr) (is : List Nat) (g : Tgt) : TG := fun v σ H Q => ∃ d E E' S Hf ρ, Rel K B E S σ H Hf ρ ∧ Dt K Hf ρ d v ∧ g d E = some E' ∧ (∀ σ', Rel K B E' S σ' H Hf ρ → (∀ vs, (∀ i ∈ is, i ∈ vs) → wipe σ' vs = wipe σ vs) → Q σ' H)
section
variable {X : Cx} {B : Gr} {W : WX} {e : Expr} {fe : FE} {ft : FT} {is : List Nat} {g : Tgt}
theorem QE.can (h : QE X B W e fe) : PE X e (canE X.K B W fe) := by
  obtain ⟨t, a, b⟩ := h
  exact ⟨fun pins s σ H Q I ⟨n, E, S, Hf, ρ, r, p⟩ => a.run pins s σ H Q I (b n E S σ H Hf ρ Q r p)⟩
theorem QT.can (h : QT X B W e ft) : PT X e (canT X.K B W ft) := by
  obtain ⟨t, a, b⟩ := h
  exact ⟨fun pins s σ H Q I ⟨n, E, S, Hf, ρ, r, p⟩ => a.run pins s σ H Q I (b n E S σ H Hf ρ Q r p)⟩
theorem QG.can (h : QG X B e is g) : PG X e (canG X.K B is g) := by
  obtain ⟨t, a, b⟩ := h
  exact ⟨fun pins s σ H v u Q I rv ⟨d, E, E', S, Hf, ρ, r, w, e, q⟩ => a.run pins s σ H v u Q I rv (b d E E' S σ H Hf ρ v Q r w e q)⟩
end

/-! ### what is seen within a comprehension -/
def visB (scope : Scope) (x : Str) : Bool := match scope.names.lookup x with
  | some .local => true
  | some .cell => true
  | some .free => true
  | _ => false
theorem lookup_relS_free {sc : Scope} : ∀ {names : List (Str × NameKind)} {x : Str}, names.lookup x = some .free →
    (names.map fun (n, k) => if (k == NameKind.free && sc.kind == .function && sc.names.lookup n == some .cell) then (n, NameKind.cell) else (n, k)).lookup x = some .free ∨
    (names.map fun (n, k) => if (k == NameKind.free && sc.kind == .function && sc.names.lookup n == some .cell) then (n, NameKind.cell) else (n, k)).lookup x = some .cell
  | [], _, h => by simp at h
  | (n, k) :: r, x, h => by
    rw [List.map_cons]
    by_cases e : x = n
    · subst e
      simp at h
      subst h
      dsimp only
      split <;> simp
    · have hb : (x == n) = false := by simpa using e
      rw [List.lookup_cons, hb] at h
      have ih := lookup_relS_free (sc := sc) h
      dsimp only
      split <;> (rw [List.lookup_cons, hb]; exact ih)
theorem vis_blk {scope sc : Scope} {x : Str} (h : visB scope x = true) : Vis (relS scope sc) x := by
  unfold visB at h
  split at h
  · rename_i e; exact .inl (lookup_relS_keep (by decide) e)
  · rename_i e; exact .inr (.inl (lookup_relS_keep (by decide) e))
  · rename_i e
    rcases lookup_relS_free (sc := sc) e with z | z
    · exact .inr (.inr z)
    · exact .inr (.inl z)
  · cases h
section
variable {X : Cx} {s : Shared} {H : Hp} {scope : Scope} {C : Addr} {cl : List (Str × Addr)} {fp : List Addr} {i : Nat} {x : Str}
/-- the context of a comprehension's block -/
abbrev blkX (X : Cx) (s : Shared) (H : Hp) (scope : Scope) (cl : List (Str × Addr)) (C : Addr) (fp : List Addr) : Cx := X.blk s H scope (compEnvC scope cl C X.env) fp
theorem vr_blk (hi : X.N[i]? = some x) (h : visB scope x = true) (hd : (x == ("__debug__" : Str)) = false) (hcd : (x == ("__classdict__" : Str)) = false) : Vr (blkX X s H scope cl C fp) i x :=
  ⟨hi, vis_blk (sc := X.env.scope) h, hd, hcd⟩
def glB (scope : Scope) (x : Str) : Bool := match scope.names.lookup x with
  | some .globalImplicit => true
  | _ => false
theorem gl_blk (h : glB scope x = true) : Gl (blkX X s H scope cl C fp) x := by
  unfold glB at h
  split at h
  · rename_i e; exact lookup_relS_keep (by decide) e
  · cases h
def locB (scope : Scope) (x : Str) : Bool := match scope.names.lookup x with
  | some .local => true
  | some .cell => true
  | _ => false
theorem lr_blk (nd : X.N.Nodup) (hi : X.N[i]? = some x) (h : locB scope x = true) : Lr (blkX X s H scope cl C fp) i x := by
  unfold locB at h
  split at h
  · rename_i e
    have z : (relS scope X.env.scope).names.lookup x = some .local := lookup_relS_keep (by decide) e
    exact ⟨nd, hi, .inl z, .inr z⟩
  · rename_i e
    have z : (relS scope X.env.scope).names.lookup x = some .cell := lookup_relS_keep (by decide) e
    exact ⟨nd, hi, .inr z, .inl (by show (scope.names.lookup x == some .cell) = true; rw [e]; rfl)⟩
  · cases h
end

/-! ### [e for x in xs if t] -/
def wipeE (E : Env) : List Nat → Env
  | [] => E
  | v :: vs => (wipeE E vs).set v none
theorem Rel.wipe {K : PySem.W.Frag} {B : Gr} {E : Env} {S : Store} {σ : L2.St} {H Hf : Hp} {ρ : List Addr} (r : Rel K B E S σ H Hf ρ) : ∀ vs : List Nat, Rel K B (wipeE E vs) S (L2.wipe σ vs) H Hf ρ
  | [] => r
  | v :: vs => by
    have q := Rel.wipe r vs
    unfold wipeE L2.wipe
    refine ⟨q.hr, q.tr, by simp [q.len], fun j s e => ?_, fun j k a d1 d2 e1 e2 e3 e4 => ?_⟩
    · rcases get_set_own e with ⟨rfl, e, hl⟩ | ⟨hj, e⟩
      · cases e
      · rw [List.getElem?_set_ne hj]
        exact q.sl j s e
    · rcases get_set_own e1 with ⟨rfl, x1, hl⟩ | ⟨hj, e1⟩
      · cases x1
      · rcases get_set_own e2 with ⟨rfl, x2, hl2⟩ | ⟨hk, e2⟩
        · cases x2
        · rw [List.getElem?_set_ne hj] at e3
          rw [List.getElem?_set_ne hk] at e4
          exact q.dis j k a d1 d2 e1 e2 e3 e4
/-- .. without errors -/
def Res.bindN {α β : Type} (r : Res α) (k : α → Store → Res β) : Res β := match r with
  | .ok a S => k a S
  | _ => .stk
def lcL (g : Tgt) (c : Env → Store → Res Bool) (e : Env → Store → Res D) : List D → Env → Store → Res (List D)
  | [], _, S => .ok [] S
  | d :: ds, E, S => match g d E with
    | none => .stk
    | some E1 => (c E1 S).bindN fun k S1 => match k with
      | true => (e E1 S1).bindN fun v S2 => (lcL g c e ds E S2).bindN fun vs S3 => .ok (v :: vs) S3
      | false => lcL g c e ds E S1
def fLc (it : FA) (g : Tgt) (c : FT) (e : FE) (vs : List Nat) : FE := fun n E S => (it n E S).bind fun ds S1 =>
  if ds.length ≤ 1000000 then (lcL g (c n) (e n) ds (wipeE E vs) S1).bindN fun l S2 => .ok (.lst l) S2 else .stk
def fYes : FT := fun _ _ S => .ok true S
def W0 : WX := fun _ _ _ _ => False
theorem Res.bindN_ok {α β : Type} {r : Res α} {k : α → Store → Res β} {b : β} {S : Store} (h : r.bindN k = .ok b S) : ∃ a S1, r = .ok a S1 ∧ k a S1 = .ok b S := by
  cases r with
  | ok a S1 => exact ⟨a, S1, rfl, h⟩
  | exc x S1 => cases h
  | stk => cases h
section
variable {X : Cx} {B : Gr} {W : WX} {fi : FA} {g : Tgt} {ft : FT} {fe : FE} {is : List Nat} {own : List (Str × Nat)}
theorem lc_read {wi : TI} (i2 : ∀ n E S σ H Hf ρ R, Rel X.K B E S σ H Hf ρ → PostI X.K W σ H Hf ρ R (fi n E S) → wi σ H R) (hw : ∀ i ∈ is, i ∈ own.map (·.2))
    (n : Nat) (E : Env) (S : Store) (σ : L2.St) (H Hf : Hp) (ρ : List Addr) (Q : VK) (r : Rel X.K B E S σ H Hf ρ) (p : PostF X.K W σ H Hf ρ Q (fLc fi g ft fe (own.map (·.2)) n E S)) :
    tLc wi (canG X.K B is g) (canT X.K B W0 ft) (canE X.K B W0 fe) (own.map (·.2)) σ H Q := by
  refine i2 n E S σ H Hf ρ _ r ?_
  unfold fLc at p
  cases e1 : fi n E S with
  | stk => rw [e1] at p; exact p
  | exc y S1 => rw [e1] at p; exact p
  | ok ds S1 =>
    rw [e1] at p
    intro J H1 Hf1 ρ1 hr1 t1 wk D hD
    have p : PostF X.K W σ H Hf ρ Q (if ds.length ≤ 1000000 then (lcL g (ft n) (fe n) ds (wipeE E (own.map (·.2))) S1).bindN fun l S2 => .ok (.lst l) S2 else .stk) := p
    by_cases hl : ds.length ≤ 1000000
    · rw [if_pos hl] at p
      cases el : lcL g (ft n) (fe n) ds (wipeE E (own.map (·.2))) S1 with
      | stk => rw [el] at p; exact p.elim
      | exc y S2 => rw [el] at p; exact p.elim
      | ok L Se =>
        rw [el] at p
        generalize hEw : wipeE E (own.map (·.2)) = Ew at el
        have rw0 : Rel X.K B Ew S (wipe σ (own.map (·.2))) H Hf ρ := hEw ▸ r.wipe (own.map (·.2))
        let Wi : Nat → Nat → Hp → Prop := fun i m H2 => ∃ S2 Hf2 ρ2 acc accV l, HR X.K H2 Hf2 ρ2 S2 ∧ Tr H1 Hf1 ρ1 H2 Hf2 ρ2 ∧ H2 D = some (.lst accV) ∧ Hf2 D = none ∧ D ∉ ρ2 ∧ Dts X.K Hf2 ρ2 acc accV ∧
          m = ds.length - i ∧ acc.length ≤ i ∧ lcL g (ft n) (fe n) (ds.drop i) Ew S2 = .ok l Se ∧ L = acc ++ l
        refine ⟨Wi, ⟨ds.length, S1, Hf1, ρ1, [], [], L, hr1.own (hr1.hnone hD) (hr1.notin hD), Tr.own hD, upd_same, hr1.hnone hD, hr1.notin hD, rfl, by simp, Nat.le_refl _, by simpa using el, rfl⟩, ?_⟩
        rintro i m H2 ⟨S2, Hf2, ρ2, acc, accV, l, hr2, t2, hD2, hfD, hDn, wacc, rfl, hai, ell, eL⟩
        obtain ⟨k1, k2⟩ := wk H2 Hf2 ρ2 S2 hr2 t2.hf t2.pre i
        by_cases hi : i < ds.length
        · obtain ⟨go, yl⟩ := k1 ds[i] (List.getElem?_eq_getElem hi)
          have ed : ds.drop i = ds[i] :: ds.drop (i + 1) := List.drop_eq_getElem_cons hi
          rw [ed] at ell
          refine .inr ⟨go, Wi (i + 1) (ds.length - (i + 1)), fun H' w => ⟨ds.length - (i + 1), by omega, w⟩, fun x H3 y => ?_⟩
          obtain ⟨Hf3, hr3, t3, w3⟩ := yl x H3 y
          -- what stands at D stays through a step
          have stay : ∀ {Ha Hfa : Hp} {ρa : List Addr} {Hb Hfb : Hp} {ρb : List Addr}, Tr Ha Hfa ρa Hb Hfb ρb → Ha D = some (.lst accV) → Hfa D = none → D ∉ ρa → Hb D = some (.lst accV) ∧ Hfb D = none ∧ D ∉ ρb := fun {Ha Hfa ρa Hb Hfb ρb} t a1 a2 a3 => by
            refine ⟨t.keep _ _ a1 a3, ?_, fun z => ?_⟩
            · cases z : Hfb D with
              | none => rfl
              | some u =>
                rcases t.fresh D (by rw [z]; simp) with q | q
                · exact absurd a2 q
                · rw [a1] at q; cases q
            · rcases t.newh D z with q | q
              · exact a3 q
              · rw [a1] at q; cases q
          obtain ⟨b1, b2, b3⟩ := stay t3 hD2 hfD hDn
          have r3 := rw0.step hr3 ((t1.trans t2).trans t3)
          unfold lcL at ell
          cases eg : g ds[i] Ew with
          | none => rw [eg] at ell; cases ell
          | some E3 =>
            rw [eg] at ell
            obtain ⟨k, S4, ec, ell⟩ := Res.bindN_ok ell
            refine ⟨ds[i], Ew, E3, S2, Hf3, ρ2, r3, w3, eg, fun σ4 r4 hwp => ⟨hwp _ hw |>.trans ?_, n, E3, S2, Hf3, ρ2, r4, ?_⟩⟩
            · clear hwp r4 r3 rw0
              generalize own.map (·.2) = vs
              -- wiping twice
              have z : ∀ (vs : List Nat) (τ : L2.St) (v : Nat), v ∈ vs → (wipe τ vs).set v none = wipe τ vs := by
                intro vs
                induction vs with
                | nil => intro τ v hv; cases hv
                | cons w ws ih =>
                  intro τ v hv
                  unfold wipe
                  rcases List.mem_cons.mp hv with rfl | hv
                  · rw [List.set_set]
                  · by_cases hvw : v = w
                    · subst hvw; rw [List.set_set]
                    · rw [List.set_comm _ _ (Ne.symm hvw), ih τ v hv]
              have z2 : ∀ (us vs : List Nat) (τ : L2.St), (∀ v ∈ us, v ∈ vs) → wipe (wipe τ vs) us = wipe τ vs := by
                intro us
                induction us with
                | nil => intro vs τ _; rfl
                | cons w ws ih =>
                  intro vs τ hv
                  show (wipe (wipe τ vs) ws).set w none = wipe τ vs
                  rw [ih vs τ fun v h => hv v (List.mem_cons_of_mem _ h), z vs τ w (hv w List.mem_cons_self)]
              exact z2 vs vs σ fun _ h => h
            · rw [ec]
              intro H4 Hf4 ρ4 hr4 t4
              obtain ⟨c1, c2, c3⟩ := stay t4 b1 b2 b3
              cases k with
              | false =>
                rw [if_neg Bool.false_ne_true]
                exact ⟨S4, Hf4, ρ4, acc, accV, l, hr4, (t2.trans t3).trans t4, c1, c2, c3, wacc.mono (t3.hf.trans t4.hf) (t3.pre.trans t4.pre), rfl, by omega, ell, eL⟩
              | true =>
                rw [if_pos rfl]
                obtain ⟨v, S5, ev, ell⟩ := Res.bindN_ok ell
                obtain ⟨ws, S6, ews, ell⟩ := Res.bindN_ok ell
                cases ell
                refine ⟨n, E3, S4, Hf4, ρ4, r4.step hr4 t4, ?_⟩
                rw [ev]
                intro y H5 Hf5 ρ5 hr5 t5 w5
                obtain ⟨d1, d2, d3⟩ := stay t5 c1 c2 c3
                refine ⟨accV, d1, ?_, ?_⟩
                · rw [← wacc.length]; exact Nat.lt_of_lt_of_le (show acc.length < 1000001 by omega) (by decide)
                · have tA := ((t2.trans t3).trans t4).trans t5
                  refine ⟨S5, Hf5, ρ5, acc ++ [v], accV ++ [y], ws, hr5.own d2 d3, ⟨tA.hf, tA.pre, fun a o ha hn => ?_, tA.fresh, tA.newh, fun a ha => ?_⟩, upd_same, d2, d3, ?_, rfl, ?_, ews, ?_⟩
                  · have : a ≠ D := fun z => by subst z; rw [hD] at ha; cases ha
                    rw [upd_ne this]; exact tA.keep a o ha hn
                  · by_cases z : a = D
                    · subst z; rw [upd_same]; simp
                    · rw [upd_ne z]; exact tA.alive a ha
                  · exact (wacc.mono ((t3.hf.trans t4.hf).trans t5.hf) ((t3.pre.trans t4.pre).trans t5.pre)).append (Dts.one w5)
                  · rw [List.length_append, List.length_singleton]; omega
                  · rw [eL, List.append_assoc]; rfl
        · refine .inl ⟨k2 (by omega), ?_⟩
          rw [List.drop_eq_nil_of_le (by omega)] at ell
          cases ell
          rw [List.append_nil] at eL
          subst eL
          have nH : H D = none := by
            cases z : H D with
            | none => rfl
            | some o => exact absurd hD (t1.alive D (by rw [z]; simp))
          exact p D H2 Hf2 ρ2 hr2 (t1.trans t2) nH hfD hDn ⟨accV, hD2, wacc⟩
    · rw [if_neg hl] at p; exact p.elim
end
section
variable {X : Cx} {B : Gr} {W : WX} {tg it elt c : Expr} {scope : Scope} {own : List (Str × Nat)} {pos spos py : Pos} {is : List Nat} {fi : FA} {g : Tgt} {ft : FT} {fe : FE} {i : Nat} {y : Str}
theorem t_yes {X : Cx} : PTs X [] (canT X.K B W0 fYes) :=
  ⟨fun pins s σ H Q I ⟨n, E, S, Hf, ρ, r, p⟩ => (pts_nil (X := X)).run pins s σ H Q I (p H Hf ρ r.hr (Tr.refl _ _ _))⟩
/-- a comprehension without a test -/
theorem f_lc (cc : Cc X W) (hi : QI X B W tg it fi) (ok : blkC X.N X.env.scope scope own = true)
    (hg : ∀ (s : Shared) (H : Hp) (C : Addr) (cl : List (Str × Addr)) (fp : List Addr), QG (blkX X s H scope cl C fp) B tg is g)
    (he : ∀ (s : Shared) (H : Hp) (C : Addr) (cl : List (Str × Addr)) (fp : List Addr), QE (blkX X s H scope cl C fp) B W0 elt fe) (hw : ∀ i ∈ is, i ∈ own.map (·.2)) (hs : ∀ x, foldedSetIterable it X.env x = pure x) :
    QF X B W (.ListComp elt [⟨tg, it, [], 0⟩] scope pos) (fLc fi g fYes fe (own.map (·.2))) := by
  obtain ⟨wi, i1, i2⟩ := hi
  exact ⟨_, pe_lc cc.calm cc.nd i1 (blkOk_by ok) (fun s H C cl fp => (hg s H C cl fp).can) (fun s H C cl fp => t_yes) (fun s H C cl fp => (he s H C cl fp).can) hs, lc_read i2 hw⟩
/-- .. with one -/
theorem f_lcT (cc : Cc X W) (hi : QI X B W tg it fi) (ok : blkC X.N X.env.scope scope own = true)
    (hg : ∀ (s : Shared) (H : Hp) (C : Addr) (cl : List (Str × Addr)) (fp : List Addr), QG (blkX X s H scope cl C fp) B tg is g)
    (hc : ∀ (s : Shared) (H : Hp) (C : Addr) (cl : List (Str × Addr)) (fp : List Addr), QT (blkX X s H scope cl C fp) B W0 c ft)
    (he : ∀ (s : Shared) (H : Hp) (C : Addr) (cl : List (Str × Addr)) (fp : List Addr), QE (blkX X s H scope cl C fp) B W0 elt fe) (hw : ∀ i ∈ is, i ∈ own.map (·.2)) (hs : ∀ x, foldedSetIterable it X.env x = pure x) :
    QF X B W (.ListComp elt [⟨tg, it, [c], 0⟩] scope pos) (fLc fi g ft fe (own.map (·.2))) := by
  obtain ⟨wi, i1, i2⟩ := hi
  exact ⟨_, pe_lc cc.calm cc.nd i1 (blkOk_by ok) (fun s H C cl fp => (hg s H C cl fp).can) (fun s H C cl fp => pts_one (hc s H C cl fp).can) (fun s H C cl fp => (he s H C cl fp).can) hs, lc_read i2 hw⟩
theorem set_fz {n : Nat} {E : Env} {S : Store} {σ : L2.St} {H Hf : Hp} {ρ : List Addr} {Q : Ends} (r : Rel X.K B E S σ H Hf ρ) (p : PostS X.K W B Hf ρ Q (fSet i fe n E S)) :
    PostF X.K W σ H Hf ρ (fun x H1 => gName i x σ H1 Q.nx) (fe n E S) := by
  refine PostE.ofF ?_
  unfold fSet at p
  cases e1 : fe n E S with
  | stk => rw [e1] at p; exact p
  | exc y S1 => rw [e1] at p; exact fun c od H' Hf' ρ' a b d => p c od σ H' Hf' ρ' (r.step a b) b.hf b.pre d
  | ok d S1 => rw [e1] at p; exact fun v H' Hf' ρ' a b w => p _ _ _ _ ((r.step a b).set i w) b.hf b.pre
/-- y = [..] on one line, y a plain local name -/
theorem s_setLc (cc : Cc X W) (ly : Ll X i y) (hl : (py.line == pos.line) = true) (hsh : (scope.names.any fun (n, k) => n == y && (k == .local || k == .cell)) = false) (hi : QI X B W tg it fi) (ok : blkC X.N X.env.scope scope own = true)
    (hg : ∀ (s : Shared) (H : Hp) (C : Addr) (cl : List (Str × Addr)) (fp : List Addr), QG (blkX X s H scope cl C fp) B tg is g)
    (he : ∀ (s : Shared) (H : Hp) (C : Addr) (cl : List (Str × Addr)) (fp : List Addr), QE (blkX X s H scope cl C fp) B W0 elt fe) (hw : ∀ i ∈ is, i ∈ own.map (·.2)) (hs : ∀ x, foldedSetIterable it X.env x = pure x) :
    QS X B W (.Assign [.Name y py] (.ListComp elt [⟨tg, it, [], 0⟩] scope pos) spos) (fSet i (fLc fi g fYes fe (own.map (·.2)))) := by
  obtain ⟨wi, i1, i2⟩ := hi
  exact ⟨_, ps_setLc cc.calm cc.nd ly.ix ly.loc (sw_true cc.kd ly.loc hl hsh) i1 (blkOk_by ok) (fun s H C cl fp => (hg s H C cl fp).can) (fun s H C cl fp => t_yes) (fun s H C cl fp => (he s H C cl fp).can) hs,
    fun n E S σ H Hf ρ Q r p => lc_read i2 hw n E S σ H Hf ρ _ r (set_fz r p)⟩
theorem s_setLcT (cc : Cc X W) (ly : Ll X i y) (hl : (py.line == pos.line) = true) (hsh : (scope.names.any fun (n, k) => n == y && (k == .local || k == .cell)) = false) (hi : QI X B W tg it fi) (ok : blkC X.N X.env.scope scope own = true)
    (hg : ∀ (s : Shared) (H : Hp) (C : Addr) (cl : List (Str × Addr)) (fp : List Addr), QG (blkX X s H scope cl C fp) B tg is g)
    (hc : ∀ (s : Shared) (H : Hp) (C : Addr) (cl : List (Str × Addr)) (fp : List Addr), QT (blkX X s H scope cl C fp) B W0 c ft)
    (he : ∀ (s : Shared) (H : Hp) (C : Addr) (cl : List (Str × Addr)) (fp : List Addr), QE (blkX X s H scope cl C fp) B W0 elt fe) (hw : ∀ i ∈ is, i ∈ own.map (·.2)) (hs : ∀ x, foldedSetIterable it X.env x = pure x) :
    QS X B W (.Assign [.Name y py] (.ListComp elt [⟨tg, it, [c], 0⟩] scope pos) spos) (fSet i (fLc fi g ft fe (own.map (·.2)))) := by
  obtain ⟨wi, i1, i2⟩ := hi
  exact ⟨_, ps_setLc cc.calm cc.nd ly.ix ly.loc (sw_true cc.kd ly.loc hl hsh) i1 (blkOk_by ok) (fun s H C cl fp => (hg s H C cl fp).can) (fun s H C cl fp => pts_one (hc s H C cl fp).can) (fun s H C cl fp => (he s H C cl fp).can) hs,
    fun n E S σ H Hf ρ Q r p => lc_read i2 hw n E S σ H Hf ρ _ r (set_fz r p)⟩
/-- a captured name's comprehension is stored as any value -/
theorem sw_cell {env : PySem.Env} {gs : List Comprehension} {l : Nat} (h : env.scope.names.lookup y = some .cell) : swapsWith (.ListComp elt gs scope pos) (some (.Name y py)) l env = pure false := by
  have k : env.kindOf y = some .cell := h
  unfold swapsWith
  simp [k, show (NameKind.cell == NameKind.local) = false from rfl]
end

/-! ### a def keeps its promise by its body's function -/
def startE (N : List Str) (ds : List D) : Env := ds.map (fun d => some (.fz d)) ++ List.replicate (N.length - ds.length) none
/-- what a body's end is worth -/
def bodyR : SRes → Res D
  | .nx _ S => .ok .non S
  | .rt d S => .ok d S
  | .ex x _ S => .exc x S
  | _ => .stk
theorem bodyR_nx {b : SRes} {d : D} {S : Store} (h : bodyR b = .ok d S) : b = .rt d S ∨ ∃ E, b = .nx E S ∧ d = .non := by
  cases b <;> cases h
  · exact .inr ⟨_, rfl, rfl⟩
  · exact .inl rfl
theorem start_rel {K : PySem.W.Frag} {H Hf : Hp} {ρ : List Addr} {S : Store} {N : List Str} {ds : List D} {vs : List V} (hr : HR K H Hf ρ S) (w : Dts K Hf ρ ds vs) : Rel K ⟨H, Hf, ρ⟩ (startE N ds) S (L2.start N vs) H Hf ρ := by
  refine ⟨hr, Tr.refl _ _ _, ?_, fun i s e => ?_, fun i j a d e h1 _ _ _ => ?_⟩
  · unfold startE L2.start
    rw [List.length_append, List.length_append, List.length_map, List.length_map, List.length_replicate, List.length_replicate, w.length]
  · unfold startE at e
    by_cases hi : i < ds.length
    · rw [List.getElem?_append_left (by simpa using hi), List.getElem?_map, List.getElem?_eq_getElem hi] at e
      cases e
      obtain ⟨v, e1, e2⟩ := w.get (List.getElem?_eq_getElem hi)
      refine ⟨v, ?_, e2⟩
      unfold L2.start
      rw [List.getElem?_append_left (by rw [List.length_map, ← w.length]; exact hi), List.getElem?_map, e1]
      rfl
    · rw [List.getElem?_append_right (by simpa using hi), List.getElem?_replicate] at e
      split at e <;> cases e
  · unfold startE at h1
    by_cases hi : i < ds.length
    · rw [List.getElem?_append_left (by simpa using hi), List.getElem?_map, List.getElem?_eq_getElem hi] at h1
      cases h1
    · rw [List.getElem?_append_right (by simpa using hi), List.getElem?_replicate] at h1
      split at h1 <;> cases h1
/-- what a body's derivation may use of its context -/
structure Wd (X : Cx) (P : Program) (w : World) (K : PySem.W.Frag) (mg : Str → Option Value) (base : Heap) (k : Nat) : Prop where
  hP : X.prog = P
  hw : X.w = w
  hK : X.K = K
  hmg : X.mg = mg
  hb : X.base = base
  room : Room k X.A
structure Bd (X : Cx) (W : WX) (P : Program) (w : World) (K : PySem.W.Frag) (mg : Str → Option Value) (base : Heap) (k : Nat) (N : List Str) (sc : Scope) : Prop where
  cc : Cc X W
  wd : Wd X P w K mg base k
  hN : X.N = N
  hsc : X.env.scope = sc
  fn : ∀ x, X.fn x = true
section
variable {X : Cx} {W : WX} {P : Program} {w : World} {K : PySem.W.Frag} {mg : Str → Option Value} {base : Heap} {k : Nat} {N : List Str} {sc : Scope} {i : Nat} {x : Str}
theorem Wd.blk (h : Wd X P w K mg base k) {s : Shared} {H : Hp} {scope : Scope} {cl : List (Str × Addr)} {C : Addr} {fp : List Addr} : Wd (blkX X s H scope cl C fp) P w K mg base k := ⟨h.hP, h.hw, h.hK, h.hmg, h.hb, h.room⟩
theorem Cc.blk (h : Cc X W) {s : Shared} {H : Hp} {scope : Scope} {cl : List (Str × Addr)} {C : Addr} {fp : List Addr} (hk : scope.kind = .function) : Cc (blkX X s H scope cl C fp) W0 := ⟨takes0, PassesOwn.never, h.calm, hk, h.nd⟩
/-- neither of the two names that are no names -/
def nmB (x : Str) : Bool := !(x == ("__debug__" : Str)) && !(x == ("__classdict__" : Str)) && !(x == ("__name__" : Str))
theorem nm_db (h : nmB x = true) : (x == ("__debug__" : Str)) = false := by
  unfold nmB at h; simp only [Bool.and_eq_true, Bool.not_eq_true'] at h; exact h.1.1
theorem nm_cd (h : nmB x = true) : (x == ("__classdict__" : Str)) = false := by
  unfold nmB at h; simp only [Bool.and_eq_true, Bool.not_eq_true'] at h; exact h.1.2
theorem nm_nm (h : nmB x = true) : x ≠ "__name__" := by
  unfold nmB at h; simp only [Bool.and_eq_true, Bool.not_eq_true'] at h; exact fun z => by rw [z] at h; simp at h
theorem Bd.vr (h : Bd X W P w K mg base k N sc) (hi : N[i]? = some x) (hv : (visB sc x && nmB x) = true) : Vr X i x := by
  rw [Bool.and_eq_true] at hv
  refine ⟨by rw [h.hN]; exact hi, ?_, nm_db hv.2, nm_cd hv.2⟩
  rw [h.hsc]
  have q := hv.1
  unfold visB at q
  split at q
  · rename_i e; exact .inl e
  · rename_i e; exact .inr (.inl e)
  · rename_i e; exact .inr (.inr e)
  · cases q
theorem Bd.lr (h : Bd X W P w K mg base k N sc) (hi : N[i]? = some x) (hv : locB sc x = true) : Lr X i x := by
  refine ⟨h.cc.nd, by rw [h.hN]; exact hi, ?_, .inl (h.fn x)⟩
  rw [h.hsc]
  unfold locB at hv
  split at hv
  · rename_i e; exact .inl e
  · rename_i e; exact .inr e
  · cases hv
theorem Bd.ll (h : Bd X W P w K mg base k N sc) (hi : N[i]? = some x) (hv : sc.names.lookup x = some .local) : Ll X i x := ⟨by rw [h.hN]; exact hi, by rw [h.hsc]; exact hv⟩
theorem Bd.gl (h : Bd X W P w K mg base k N sc) (hv : glB sc x = true) : Gl X x := by
  unfold glB at hv
  split at hv
  · rename_i e; show X.env.scope.names.lookup x = _; rw [h.hsc]; exact e
  · cases hv
/-- the module's def x -/
structure CalleeK (P : Program) (w : World) (K : PySem.W.Frag) (mg : Str → Option Value) (base : Heap) (x : Str) (k : Nat) (np : Nat) (m : MF) : Prop where
  ex : ∃ f, mg x = some (.ref f) ∧ FnD P w K mg base k f np m
theorem Wd.callee {j np : Nat} {m : MF} (h : Wd X P w K mg base k) (c : CalleeK P w K mg base x j np m) (g : Gl X x) (hd : nmB x = true) : Callee X x j np m := by
  obtain ⟨h1, h2, h3, h4, h5, _⟩ := h
  subst h1 h2 h3 h4 h5
  exact ⟨g, nm_db hd, c.ex⟩
theorem Wd.blt (h : Wd X P w K mg base k) (c : mg x = none) (g : Gl X x) : Blt X x := ⟨g, by rw [h.hmg]; exact c⟩
theorem Wd.gint {z : Int} (h : Wd X P w K mg base k) (c : ∃ t, mg x = some (.int z t)) : ∃ t, X.mg x = some (.int z t) := by rw [h.hmg]; exact c
theorem Wd.gstr {z : Str} (h : Wd X P w K mg base k) (c : ∃ t, mg x = some (.str z t)) : ∃ t, X.mg x = some (.str z t) := by rw [h.hmg]; exact c
theorem Wd.gref (h : Wd X P w K mg base k) (c : mg x = some (.ref (He.ga K x))) : X.mg x = some (.ref (He.ga X.K x)) := by rw [h.hmg, h.hK]; exact c
theorem Wd.hu (h : Wd X P w K mg base k) : X.A.units + 64 < cLine := h.room.units
theorem Wd.exc (h : Wd X P w K mg base k) (g : Gl X x) (hd : nmB x = true) (c : mg x = some (.ref (He.ga K x))) (e : (He.Fa.exc x).ok K = true) : ExcC X x := by
  obtain ⟨h1, h2, h3, h4, h5, _⟩ := h
  subst h1 h2 h3 h4 h5
  have e : (PySem.W.excIn X.K (He.ga X.K x) He.veBase "ValueError.__new__" && (PySem.W.keepIn X.K (.ref (He.ga X.K x)) && (decide (PySem.W.subIn X.K (.ref (He.ga X.K x)) (.type "BaseException") = some true) && decide (PySem.W.typeIn X.K (.ref (He.ga X.K x)) = some (.type "type"))))) = true := e
  simp only [Bool.and_eq_true, decide_eq_true_eq] at e
  exact ⟨g, c, e.1, e.2.1, e.2.2.1, e.2.2.2, nm_db hd⟩
end
theorem fnOk_of {P : Program} {w : World} {K : PySem.W.Frag} {mg : Str → Option Value} {base : Heap} {x qual : Str} {params : Arguments} {body : List Stmt} {scope : Scope} {f : Addr} {fd : FuncData} {N ps : List Str} {k np : Nat} {m : MF} {fb : FS}
    (F : FunD K x qual params body scope [] [] f fd) (S : FnScope N ps scope) (hp : ps.length = np)
    (der : ∀ (X : Cx) (B : Gr) (W : WX), Bd X W P w K mg base k N scope → QSs X B W body fb)
    (impl : ∀ ds S, ds.length = np → m ds S ≠ .stk → ∃ n, bodyR (fb n (startE N ds) S) = m ds S) : FnOk P w K mg base (L2.CX P w) (k + 1) f fd ps (spD K np m) := by
  subst hp
  refine F.ok S (fun vs H Q E h => ?_) (fun cdv A outer s H vs Q E hr h => ?_)
  · obtain ⟨ds, St, Hf, ρ, h1, h2, h3, h4⟩ := h
    rw [← h3.length, h1]
  · obtain ⟨ds, St, Hf, ρ, h1, h2, h3, h4⟩ := h
    have d := der (cxOf (L2.CX P w) P w K mg base N qual scope f cdv A outer s H E) ⟨H, Hf, ρ⟩ (fun c d _ H => E c d H)
      ⟨⟨takes_of rfl rfl rfl rfl, passes_of rfl, rfl, S.kind, S.nd⟩, ⟨rfl, rfl, rfl, rfl, rfl, hr⟩, rfl, rfl, fun _ => rfl⟩
    obtain ⟨t, a, b⟩ := d
    refine ⟨t, a, ?_⟩
    have hm : m ds St ≠ .stk := fun z => by rw [z] at h4; exact h4
    obtain ⟨n, e⟩ := impl ds St h1 hm
    refine b n (startE N ds) St (L2.start N vs) H Hf ρ _ (start_rel h2 h3) ?_
    rw [← e] at h4
    cases eb : fb n (startE N ds) St with
    | nx E' S' => rw [eb] at h4; exact fun σ' H' Hf' ρ' r _ _ => h4 .non H' Hf' ρ' r.hr r.tr rfl
    | rt d S' => rw [eb] at h4; exact fun v H' Hf' ρ' a b c => h4 v H' Hf' ρ' a b c
    | bk E' S' => rw [eb] at h4; exact h4.elim
    | ct E' S' => rw [eb] at h4; exact h4.elim
    | ex y E' S' => rw [eb] at h4; exact fun c od σ' H' Hf' ρ' r _ _ z => h4 c od H' Hf' ρ' r.hr r.tr z
    | stk => rw [eb] at h4; exact h4.elim
theorem fnD_of {P : Program} {w : World} {K : PySem.W.Frag} {mg : Str → Option Value} {base : Heap} {x qual : Str} {params : Arguments} {body : List Stmt} {scope : Scope} {f : Addr} {fd : FuncData} {N ps : List Str} {k np : Nat} {m : MF} {fb : FS}
    (F : FunD K x qual params body scope [] [] f fd) (S : FnScope N ps scope) (hp : ps.length = np) (hb : Binds K fd ps [])
    (der : ∀ (X : Cx) (B : Gr) (W : WX), Bd X W P w K mg base k N scope → QSs X B W body fb)
    (impl : ∀ ds S, ds.length = np → m ds S ≠ .stk → ∃ n, bodyR (fb n (startE N ds) S) = m ds S) : FnD P w K mg base (k + 1) f np m :=
  ⟨fd, ps, hp, fnOk_of F S hp der impl, F.kp, hb⟩
/-- what the head tells -/
structure Hd (fa : List He.Fa) (fn : List He.DefD) (K : PySem.W.Frag) (mg : Str → Option Value) : Prop where
  ex : ∃ h : Heap, K.In h ∧ h.Ns mainGlobals mg
  c : He.SaysD fa fn K
section
variable {fa : List He.Fa} {fn : List He.DefD} {K : PySem.W.Frag} {mg : Str → Option Value} {x : Str}
theorem Hd.glo (T : Hd fa fn K mg) (i : Nat) (h : fa[i]? = some (.glo x)) : mg x = some (.ref (He.ga K x)) := by
  obtain ⟨hp, X, G⟩ := T.ex
  exact He.glo_ok X G (T.c.fact i h)
theorem Hd.free (T : Hd fa fn K mg) (i : Nat) (h : fa[i]? = some (.free x)) : mg x = none := by
  obtain ⟨hp, X, G⟩ := T.ex
  exact He.free_ok X G (T.c.fact i h)
theorem Hd.int (T : Hd fa fn K mg) (i : Nat) {z : Int} (h : fa[i]? = some (.int x z)) : ∃ t, mg x = some (.int z t) := by
  obtain ⟨hp, X, G⟩ := T.ex
  exact He.int_ok X G (T.c.fact i h)
theorem Hd.exc (T : Hd fa fn K mg) (i : Nat) (h : fa[i]? = some (.exc x)) : (He.Fa.exc x).ok K = true := T.c.fact i h
/-- a def of the text, by its function -/
theorem Hd.callee {P : Program} {w : World} {base : Heap} {params : Arguments} {body : List Stmt} {scope : Scope} {N ps : List Str} {k np : Nat} {m : MF} {fb : FS} {nm qual : Str} (T : Hd fa fn K mg) (i j : Nat) (h : fa[i]? = some (.glo x))
    (hd : fn[j]? = some ⟨(x, none), nm, qual, params, body, scope, [], []⟩) (S : FnScope N ps scope) (hp : ps.length = np)
    (hb : ∀ (kV doc pm : Value) (an : Option Addr) (cdv ct : Value) (us : List Value), us.length = ps.length → bindArgs (PySem.W.fnOf nm qual params body scope .none kV doc pm an cdv ct) ⟨us, []⟩ = pure (ps.zip us))
    (der : ∀ (X : Cx) (B : Gr) (W : WX), Bd X W P w K mg base k N scope → QSs X B W body fb)
    (impl : ∀ ds S, ds.length = np → m ds S ≠ .stk → ∃ n, bodyR (fb n (startE N ds) S) = m ds S) : CalleeK P w K mg base x (k + 1) np m := by
  obtain ⟨fd, F⟩ := T.c.def_ j hd
  refine ⟨_, T.glo i h, fnD_of (f := He.ga K x) F S hp (FunD.bindsN F hb) der impl⟩
end
end DL

end

section
set_option autoImplicit false
set_option autoImplicit false
namespace DL
open PySem PySem.Spec PyProof.Rows L2

/-! ### - a -/
def gNeg : D → Option D
  | .int i => some (.int (-i))
  | _ => none
def fUn (g : D → Option D) (f : FE) : FE := fun n E S => (f n E S).bind fun d S1 => match g d with
  | some r => .ok r S1
  | none => .stk
section
variable {X : Cx} {B : Gr} {W : WX} {pos : Pos} {a b : Expr} {fa fb : FE}
theorem q_neg (ha : QE X B W a fa) : QE X B W (.UnaryOp .USub a pos) (fUn gNeg fa) := by
  obtain ⟨t, h1, h2⟩ := ha
  refine ⟨_, pe_un un_neg h1, fun n E S σ H Hf ρ Q r p => h2 n E S σ H Hf ρ _ r ?_⟩
  unfold fUn at p
  cases e : fa n E S with
  | stk => rw [e] at p; exact p
  | exc x S1 => rw [e] at p; exact p
  | ok d S1 =>
    rw [e] at p
    intro v H' Hf' ρ' h1 h2 h3
    cases d <;> try exact p.elim
    rename_i z
    exact ⟨z, h3, p _ H' Hf' ρ' h1 h2 rfl⟩
end

/-! ### x in xs, of flat things -/
def flatD : D → Bool
  | .non => true
  | .bl _ => true
  | .int _ => true
  | .str _ => true
  | _ => false
/-- == of flat things -/
def eqF : D → D → Bool
  | .non, .non => true
  | .bl a, .bl b => a == b
  | .bl a, .int b => (if a then 1 else 0) == b
  | .int a, .bl b => a == (if b then 1 else 0)
  | .int a, .int b => a == b
  | .str a, .str b => a == b
  | _, _ => false
def inF (x : D) (l : List D) : Bool := l.any fun y => eqF y x
section
variable {K : PySem.W.Frag} {H Hf : Hp} {ρ : List Addr}
theorem flat_v {d : D} {v : V} (h : Dt K Hf ρ d v) (f : flatD d = true) : flatV v = true := by
  cases d <;> try cases f
  · have h : v = .non := h; subst h; rfl
  · rename_i b; have h : v = .bl b := h; subst h; rfl
  · rename_i b; have h : v = .int b := h; subst h; rfl
  · rename_i b; have h : v = .str b := h; subst h; rfl
theorem eqF_v {d e : D} {v u : V} (h : Dt K Hf ρ d v) (g : Dt K Hf ρ e u) (fd : flatD d = true) (fe : flatD e = true) : eqV v u = eqF d e := by
  cases d <;> try cases fd
  · have h : v = .non := h; subst h
    cases e <;> try cases fe
    · have g : u = .non := g; subst g; rfl
    · rename_i b; have g : u = .bl b := g; subst g; rfl
    · rename_i b; have g : u = .int b := g; subst g; rfl
    · rename_i b; have g : u = .str b := g; subst g; rfl
  · rename_i c; have h : v = .bl c := h; subst h
    cases e <;> try cases fe
    · have g : u = .non := g; subst g; rfl
    · rename_i b; have g : u = .bl b := g; subst g; rfl
    · rename_i b; have g : u = .int b := g; subst g; rfl
    · rename_i b; have g : u = .str b := g; subst g; rfl
  · rename_i c; have h : v = .int c := h; subst h
    cases e <;> try cases fe
    · have g : u = .non := g; subst g; rfl
    · rename_i b; have g : u = .bl b := g; subst g; rfl
    · rename_i b; have g : u = .int b := g; subst g; rfl
    · rename_i b; have g : u = .str b := g; subst g; rfl
  · rename_i c; have h : v = .str c := h; subst h
    cases e <;> try cases fe
    · have g : u = .non := g; subst g; rfl
    · rename_i b; have g : u = .bl b := g; subst g; rfl
    · rename_i b; have g : u = .int b := g; subst g; rfl
    · rename_i b; have g : u = .str b := g; subst g; rfl
theorem inF_v {d : D} {v : V} (h : Dt K Hf ρ d v) (f : flatD d = true) : ∀ {l : List D} {vs : List V}, Dts K Hf ρ l vs → l.all flatD = true → inV v vs = inF d l ∧ vs.all flatV = true
  | [], vs, w, _ => by simp only [Dts] at w; subst w; exact ⟨rfl, rfl⟩
  | e :: l, vs, w, fl => by
    simp only [Dts] at w
    obtain ⟨u, r, rfl, w1, w2⟩ := w
    rw [List.all_cons, Bool.and_eq_true] at fl
    obtain ⟨i1, i2⟩ := inF_v h f w2 fl.2
    unfold inV inF at *
    rw [List.any_cons, List.any_cons, eqF_v w1 h fl.1 f, i1, List.all_cons, flat_v w1 fl.1, i2]
    exact ⟨rfl, rfl⟩
theorem Dw.flat {d : D} {v : V} (h : Dw K H Hf ρ d v) (f : flatD d = true) : Dt K Hf ρ d v := by
  cases d <;> first | exact h | cases f
end
def gInB : D → D → Option Bool
  | x, .lst l => if (flatD x && l.all flatD) = true then some (inF x l) else none
  | x, .tup l => if (flatD x && l.all flatD) = true then some (inF x l) else none
  | _, _ => none
def gIn (x y : D) : Option D := (gInB x y).map D.bl
def gNin (x y : D) : Option D := (gInB x y).map fun r => D.bl (!r)
section
variable {X : Cx}
theorem gInB_inv {H Hf : Hp} {ρ : List Addr} {S : Store} {a b : D} {x y : V} {r : Bool} (hr : HR X.K H Hf ρ S) (wa : Dw X.K H Hf ρ a x) (wb : Dw X.K H Hf ρ b y) (h : gInB a b = some r) :
    ∃ p xs, y = .ref p ∧ (SqL X.K H p xs ∨ SqT X.K H p xs) ∧ flatV x = true ∧ xs.all flatV = true ∧ inV x xs = r := by
  unfold gInB at h
  split at h
  · rename_i l
    split at h
    · rename_i hc
      rw [Bool.and_eq_true] at hc
      cases h
      obtain ⟨p, vs, rfl, _, h1, h2⟩ := wb
      have wa' := wa.flat hc.1
      obtain ⟨i1, i2⟩ := inF_v wa' hc.1 h2 hc.2
      exact ⟨p, vs, rfl, .inl (SqL.of h1), flat_v wa' hc.1, i2, i1⟩
    · cases h
  · rename_i l
    split at h
    · rename_i hc
      rw [Bool.and_eq_true] at hc
      cases h
      obtain ⟨p, vs, rfl, h1, h2⟩ := (show Dt X.K Hf ρ (.tup l) y from wb)
      have wa' := wa.flat hc.1
      obtain ⟨i1, i2⟩ := inF_v wa' hc.1 h2 hc.2
      exact ⟨p, vs, rfl, .inr (hr.sub.sqT h1), flat_v wa' hc.1, i2, i1⟩
    · cases h
  · cases h
theorem opq_in : OpQ X (compareOp .In) gIn := by
  refine ⟨_, op_in_seq, fun a b x y H Hf ρ S Q d hr wa wb e q => ?_⟩
  simp only [gIn, Option.map_eq_some_iff] at e
  obtain ⟨r, e, rfl⟩ := e
  obtain ⟨p, xs, h1, h2, h3, h4, h5⟩ := gInB_inv hr wa wb e
  refine ⟨p, xs, h1, h2, h3, h4, ?_⟩
  rw [h5]
  exact q _ _ _ _ hr (Tr.refl _ _ _) rfl
theorem opq_nin : OpQ X (compareOp .NotIn) gNin := by
  refine ⟨_, op_notIn_seq, fun a b x y H Hf ρ S Q d hr wa wb e q => ?_⟩
  simp only [gNin, Option.map_eq_some_iff] at e
  obtain ⟨r, e, rfl⟩ := e
  obtain ⟨p, xs, h1, h2, h3, h4, h5⟩ := gInB_inv hr wa wb e
  refine ⟨p, xs, h1, h2, h3, h4, ?_⟩
  rw [h5]
  exact q _ _ _ _ hr (Tr.refl _ _ _) rfl
end
end DL

end

section
set_option autoImplicit false
set_option autoImplicit false
namespace DL
open PySem PySem.Spec PyProof.Rows L2

/-- more turns than any loop takes -/
def fuel : Nat := 13407807929942597099574024998205846127479365820592393377723561443721764030073546976801874298166903427690031858186486050853753882811946569946433649006084096
def fCall0 (m : MF) : FE := fun _ _ S => m [] S
section
variable {X : Cx} {B : Gr} {W : WX} {pos p1 : Pos} {x : Str} {k : Nat} {m : MF}
theorem q_call0 (c : Callee X x k 0 m) (hr : Room k X.A) (tk : Takes X W) : QE X B W (.Call (.Name x p1) [] [] pos) (fCall0 m) := by
  obtain ⟨f, hm, ⟨fd, ps, hps, F, hk, hb⟩⟩ := c.ex
  refine ⟨fun σ H Q => spD X.K 0 m [] H Q (WE W σ), ⟨fun pins s σ H Q I h => ?_⟩, fun n E S σ H Hf ρ Q r p => ⟨[], S, Hf, ρ, rfl, r.hr, rfl, ?_⟩⟩
  · refine wpAny_Call_Name_kw (ld_glob I c.gl hm ?_ c.db)
    exact PySem.W.callWith_K0 I.kIn hk (run_fnS (E := WE W) (vs := []) (us := []) F hr hb (passAt tk σ) I .nil h)
  · have p : PostE X.K W σ H Hf ρ Q (m [] S) := p
    cases e2 : m [] S with
    | stk => rw [e2] at p; exact p
    | exc y S2 => rw [e2] at p; exact fun c od H' Hf' ρ' a b d => p c od H' Hf' ρ' a b d
    | ok d S2 => rw [e2] at p; exact fun v H' Hf' ρ' a b d => p v H' Hf' ρ' a b d
end
section
variable {fa : List He.Fa} {fn : List He.DefD} {K : PySem.W.Frag} {mg : Str → Option Value} {x : Str}
/-- of what is never asked nothing is to be shown -/
theorem Hd.callee0 {P : Program} {w : World} {base : Heap} {params : Arguments} {body : List Stmt} {scope : Scope} {N ps : List Str} {k np : Nat} {nm qual : Str} (T : Hd fa fn K mg) (i j : Nat) (h : fa[i]? = some (.glo x))
    (hd : fn[j]? = some ⟨(x, none), nm, qual, params, body, scope, [], []⟩) (S : FnScope N ps scope) (hp : ps.length = np)
    (hb : ∀ (kV doc pm : Value) (an : Option Addr) (cdv ct : Value) (us : List Value), us.length = ps.length → bindArgs (PySem.W.fnOf nm qual params body scope .none kV doc pm an cdv ct) ⟨us, []⟩ = pure (ps.zip us)) :
    CalleeK P w K mg base x k np (fun _ _ => .stk) := by
  obtain ⟨fd, F⟩ := T.c.def_ j hd
  refine ⟨He.ga K x, T.glo i h, fd, ps, hp, ⟨fun vs H Q E z => ?_, fun A outer s H args us vs Q E _ _ _ _ z => ?_⟩, F.kp, FunD.bindsN F hb⟩
  · obtain ⟨_, _, _, _, _, _, _, z⟩ := z; exact z.elim
  · obtain ⟨_, _, _, _, _, _, _, z⟩ := z; exact z.elim
end
/-- a promise without errors -/
theorem FnOk.noX {P : Program} {w : World} {K : PySem.W.Frag} {mg : Str → Option Value} {base : Heap} {k : Nat} {f : Addr} {fd : FuncData} {ps : List Str} {sp : Sp} (F : FnOk P w K mg base (L2.CX P w) k f fd ps sp) :
    FnOk P w K mg base CX0 k f fd ps (fun vs H Q _ => sp vs H Q fun _ _ _ => False) := by
  refine ⟨fun vs H Q E z => F.len _ _ _ _ z, fun A outer s H args us vs Q E hr e b r z => ?_⟩
  refine codeAny_mono (F.run A outer s H args us vs Q (fun _ _ _ => False) hr e b r z) fun r s' hq => ?_
  cases r with
  | error e =>
    obtain ⟨_, _, _, _, _, _, _, _, _, _, _, _, z⟩ := (show L2.CX P w outer H s (fun _ _ _ => False) e s' from hq)
    exact z.elim
  | ok fl => cases fl <;> exact hq
theorem law_end {P : Program} {w : World} {K : PySem.W.Frag} {mg : Str → Option Value} {h : Heap} {fa : Addr} {fas : List He.Fa} {fns : List He.DefD} {params : Arguments} {body : List Stmt} {scope : Scope} {nm qual : Str} {k : Nat} {m : MF} {N : List Str} {fb : FS}
    (T : Hd fas fns K mg) (KX : K.In h) (hmg : mg ("law" : Str) = some (.ref fa)) (i j : Nat) (hg : fas[i]? = some (.glo "law")) (hd : fns[j]? = some ⟨(("law" : Str), none), nm, qual, params, body, scope, [], []⟩) (S : FnScope N ["script"] scope)
    (hb : ∀ (kV doc pm : Value) (an : Option Addr) (cdv ct : Value) (us : List Value), us.length = (["script"] : List Str).length → bindArgs (PySem.W.fnOf nm qual params body scope .none kV doc pm an cdv ct) ⟨us, []⟩ = pure ((["script"] : List Str).zip us))
    (der : ∀ (base : Heap) (X : Cx) (B : Gr) (W : WX), Bd X W P w K mg base k N scope → QSs X B W body fb) (impl : ∀ ds S, ds.length = 1 → m ds S ≠ .stk → ∃ n, bodyR (fb n (startE N ds) S) = m ds S)
    (tr : ∀ ns : List Int, ns.length ≤ 63 → ∃ S, m [.scr ns] [] = .ok (.bl true) S) :
    ∃ (K : PySem.W.Frag) (fd : FuncData) (sp : Sp), K.In h ∧ (∀ (s : Shared) (u : Value), BindsTo s fd ⟨[u], []⟩ [("script", u)]) ∧
        (∀ (H : Hp) (a : Addr) (ns : List Int), ns.length ≤ 63 → Only H → SqL K H a (ns.map V.int) → sp [.ref a] H (fun v _ => v = .bl true) fun _ _ _ => False) ∧
        ∀ base : Heap, K.In base → base.Ns mainGlobals mg → FnOk P w K mg base CX0 (k + 1) fa fd ["script"] sp := by
  obtain ⟨fd, F⟩ := T.c.def_ j hd
  have e := hmg.symm.trans (T.glo i hg)
  cases e
  refine ⟨K, fd, _, KX, fun s v => FunD.bindsA (ps := ["script"]) F hb s [v] rfl, ?_, fun base _ _ => FnOk.noX (fnOk_of (f := He.ga K "law") F S rfl (der base) impl)⟩
  intro H a ns hl _ hS
  obtain ⟨S', e⟩ := tr ns hl
  refine ⟨[.scr ns], [], H, [], rfl, ⟨Ext.refl _, rfl, fun i j a h => by simp at h, fun n a h => by simp at h, fun n a c h => by simp at h⟩, ⟨_, [], rfl, ⟨a, rfl, hS⟩, rfl⟩, ?_⟩
  rw [e]
  intro v H' Hf' ρ' _ _ d
  exact d
theorem cx_no (H : Hp) (s : Shared) (e : Value) (s' : Shared) : CX0 [] H s (fun _ _ _ => False) e s' → False := fun z => z
end DL

end

section
set_option autoImplicit false
set_option autoImplicit false
namespace DL
open PySem PySem.Spec PyProof.Rows L2

/-! ### several values at once, some of them new lists of one's own -/
def Ams (K : PySem.W.Frag) (H0 H Hf : Hp) (ρ : List Addr) : List Sl → List V → Prop
  | [], vs => vs = []
  | .fz d :: l, vs => ∃ v r, vs = v :: r ∧ Dt K Hf ρ d v ∧ Ams K H0 H Hf ρ l r
  | .own d :: l, vs => ∃ p r, vs = .ref p :: r ∧ H0 p = none ∧ Hf p = none ∧ p ∉ ρ ∧ OwnAt K H Hf ρ p d ∧ (∀ (i : Nat) e, l[i]? = some (.own e) → r[i]? ≠ some (.ref p)) ∧ Ams K H0 H Hf ρ l r
theorem Ams.own_none {K : PySem.W.Frag} {H0 H Hf : Hp} {ρ : List Addr} : ∀ {l : List Sl} {r : List V} {i : Nat} {e : D} {p : Addr}, Ams K H0 H Hf ρ l r → l[i]? = some (.own e) → r[i]? = some (.ref p) → H0 p = none
  | [], r, i, e, p, a, h1, h2 => by simp at h1
  | .fz d :: l, r, i, e, p, a, h1, h2 => by
    obtain ⟨v, r', rfl, _, a⟩ := a
    cases i with
    | zero => simp at h1
    | succ i => exact a.own_none (by simpa using h1) (by simpa using h2)
  | .own d :: l, r, i, e, p, a, h1, h2 => by
    obtain ⟨q, r', rfl, k1, _, _, _, _, a⟩ := a
    cases i with
    | zero => simp at h2; subst h2; exact k1
    | succ i => exact a.own_none (by simpa using h1) (by simpa using h2)
theorem Ams.back {K : PySem.W.Frag} {H0 H1 H Hf : Hp} {ρ : List Addr} (hh : ∀ p, H1 p = none → H0 p = none) : ∀ {l : List Sl} {r : List V}, Ams K H1 H Hf ρ l r → Ams K H0 H Hf ρ l r
  | [], r, a => a
  | .fz d :: l, r, a => by
    obtain ⟨v, r', rfl, k, a⟩ := a
    exact ⟨v, r', rfl, k, a.back hh⟩
  | .own d :: l, r, a => by
    obtain ⟨q, r', rfl, k1, k2, k3, k4, k5, a⟩ := a
    exact ⟨q, r', rfl, hh _ k1, k2, k3, k4, k5, a.back hh⟩
abbrev FM := Nat → Env → Store → Res (List Sl)
def PostAm (K : PySem.W.Frag) (W : WX) (σ : L2.St) (H Hf : Hp) (ρ : List Addr) (Q : List V → Hp → Prop) : Res (List Sl) → Prop
  | .ok d S' => ∀ v H' Hf' ρ', HR K H' Hf' ρ' S' → Tr H Hf ρ H' Hf' ρ' → Ams K H H' Hf' ρ' d v → Q v H'
  | .exc x S' => PostX K W σ H Hf ρ x S'
  | .stk => False
def QM (X : Cx) (B : Gr) (W : WX) (es : List Expr) (f : FM) : Prop := ∃ t, PA X es t ∧ ∀ n E S σ H Hf ρ Q, Rel X.K B E S σ H Hf ρ → PostAm X.K W σ H Hf ρ Q (f n E S) → t σ H Q
def fmNil : FM := fun _ _ S => .ok [] S
def fmFz (f : FE) (g : FM) : FM := fun n E S => (f n E S).bind fun d S1 => (g n E S1).bind fun ds S2 => .ok (.fz d :: ds) S2
def fmOwn (f : FE) (g : FM) : FM := fun n E S => (f n E S).bind fun d S1 => (g n E S1).bind fun ds S2 => .ok (.own d :: ds) S2
section
variable {X : Cx} {B : Gr} {W : WX} {pos : Pos} {e : Expr} {es : List Expr} {f : FE} {g : FM}
theorem tr_none {H Hf H' Hf' : Hp} {ρ ρ' : List Addr} (t : Tr H Hf ρ H' Hf' ρ') (p : Addr) (h : H' p = none) : H p = none := by
  cases z : H p with
  | none => rfl
  | some u => exact absurd h (t.alive p (by rw [z]; simp))
theorem m_nil : QM X B W [] fmNil := ⟨_, pa_nil, fun n E S σ H Hf ρ Q r p => p _ _ _ _ r.hr (Tr.refl _ _ _) rfl⟩
theorem m_fz (ha : QE X B W e f) (hr : QM X B W es g) (hs : starEach (e :: es) X.env = (false, eval e X.env) :: starEach es X.env) : QM X B W (e :: es) (fmFz f g) := by
  obtain ⟨t, h1, h2⟩ := ha
  obtain ⟨u, k1, k2⟩ := hr
  refine ⟨_, pa_cons h1 k1 hs, fun n E S σ H Hf ρ Q r p => h2 n E S σ H Hf ρ _ r ?_⟩
  unfold fmFz at p
  cases e1 : f n E S with
  | stk => rw [e1] at p; exact p
  | exc x S1 => rw [e1] at p; exact p
  | ok d S1 =>
    rw [e1] at p
    intro v H1 Hf1 ρ1 hr1 t1 w1
    refine k2 n E S1 σ H1 Hf1 ρ1 _ (r.step hr1 t1) ?_
    have p : PostAm X.K W σ H Hf ρ Q ((g n E S1).bind fun ds S2 => .ok (.fz d :: ds) S2) := p
    cases e2 : g n E S1 with
    | stk => rw [e2] at p; exact p
    | exc x S2 => rw [e2] at p; exact PostX.tr t1 p
    | ok ds S2 =>
      rw [e2] at p
      intro vs H2 Hf2 ρ2 hr2 t2 w2
      exact p _ _ _ _ hr2 (t1.trans t2) ⟨v, vs, rfl, w1.mono t2.hf t2.pre, w2.back (tr_none t1)⟩
theorem m_own (ha : QF X B W e f) (hr : QM X B W es g) (hs : starEach (e :: es) X.env = (false, eval e X.env) :: starEach es X.env) : QM X B W (e :: es) (fmOwn f g) := by
  obtain ⟨t, h1, h2⟩ := ha
  obtain ⟨u, k1, k2⟩ := hr
  refine ⟨_, pa_cons h1 k1 hs, fun n E S σ H Hf ρ Q r p => h2 n E S σ H Hf ρ _ r ?_⟩
  unfold fmOwn at p
  cases e1 : f n E S with
  | stk => rw [e1] at p; exact p
  | exc x S1 => rw [e1] at p; exact p
  | ok d S1 =>
    rw [e1] at p
    intro v H1 Hf1 ρ1 hr1 t1 q0 q1 q2 q3
    refine k2 n E S1 σ H1 Hf1 ρ1 _ (r.step hr1 t1) ?_
    have p : PostAm X.K W σ H Hf ρ Q ((g n E S1).bind fun ds S2 => .ok (.own d :: ds) S2) := p
    cases e2 : g n E S1 with
    | stk => rw [e2] at p; exact p
    | exc x S2 => rw [e2] at p; exact PostX.tr t1 p
    | ok ds S2 =>
      rw [e2] at p
      intro vs H2 Hf2 ρ2 hr2 t2 w2
      obtain ⟨o, ho⟩ := q3.there
      refine p _ _ _ _ hr2 (t1.trans t2) ⟨v, vs, rfl, q0, ?_, fun z => ?_, q3.mono q2 t2, fun i e' hi hz => ?_, w2.back (tr_none t1)⟩
      · cases z : Hf2 v with
        | none => rfl
        | some u =>
          rcases t2.fresh v (by rw [z]; simp) with z | z
          · exact absurd q1 z
          · rw [ho] at z; cases z
      · rcases t2.newh v z with z | z
        · exact q2 z
        · rw [ho] at z; cases z
      · have := w2.own_none hi hz
        rw [ho] at this; cases this
end
/-- one slot is set -/
theorem Rel.setSl {K : PySem.W.Frag} {B : Gr} {E : Env} {S : Store} {σ : L2.St} {H Hf : Hp} {ρ : List Addr} (r : Rel K B E S σ H Hf ρ) (i : Nat) {s : Sl} {v : V}
    (h : SlOk K B.H0 H Hf ρ (some (some v)) s) (hd : ∀ p d, s = .own d → v = .ref p → ∀ (j : Nat) e, E[j]? = some (some (.own e)) → σ[j]? ≠ some (some (.ref p))) :
    Rel K B (E.set i (some s)) S (σ.set i (some v)) H Hf ρ := by
  cases s with
  | fz d =>
    obtain ⟨u, h1, h2⟩ := h
    cases h1
    exact r.set i h2
  | own d =>
    obtain ⟨a, h1, h2, h3, h4, h5⟩ := h
    cases h1
    exact r.setOwn i h2 h3 h4 h5 (hd a d rfl rfl)
def fPm2 (i j : Nat) (f : FM) : FS := fun n E S => match f n E S with
  | .ok [a, b] S1 => .nx ((E.set i (some a)).set j (some b)) S1
  | .ok _ _ => .stk
  | .exc x S1 => .ex x E S1
  | .stk => .stk
def fPm3 (i j k : Nat) (f : FM) : FS := fun n E S => match f n E S with
  | .ok [a, b, c] S1 => .nx (((E.set i (some a)).set j (some b)).set k (some c)) S1
  | .ok _ _ => .stk
  | .exc x S1 => .ex x E S1
  | .stk => .stk
/-- the head of some values, and what one must know of it to set it -/
theorem Ams.head {K : PySem.W.Frag} {B : Gr} {E : Env} {S : Store} {σ : L2.St} {H Hf H' Hf' : Hp} {ρ ρ' : List Addr} {s : Sl} {l : List Sl} {vs : List V} (r : Rel K B E S σ H Hf ρ) (a : Ams K H H' Hf' ρ' (s :: l) vs) :
    ∃ v r', vs = v :: r' ∧ SlOk K B.H0 H' Hf' ρ' (some (some v)) s ∧ (∀ p d, s = .own d → v = .ref p → H p = none ∧ ∀ (i : Nat) e, l[i]? = some (.own e) → r'[i]? ≠ some (.ref p)) ∧ Ams K H H' Hf' ρ' l r' := by
  cases s with
  | fz d =>
    obtain ⟨v, r', rfl, k, a⟩ := a
    exact ⟨v, r', rfl, ⟨v, rfl, k⟩, (fun p d e => by cases e), a⟩
  | own d =>
    obtain ⟨q, r', rfl, k1, k2, k3, k4, k5, a⟩ := a
    refine ⟨.ref q, r', rfl, ⟨q, rfl, tr_none r.tr q k1, k2, k3, k4⟩, fun p d e e2 => ?_, a⟩
    cases e2
    exact ⟨k1, k5⟩
/-- no own thing of old lies where nothing lay -/
theorem Rel.oldOwn {K : PySem.W.Frag} {B : Gr} {E : Env} {S : Store} {σ : L2.St} {H Hf : Hp} {ρ : List Addr} (r : Rel K B E S σ H Hf ρ) {p : Addr} (h : H p = none) (j : Nat) (e : D) (he : E[j]? = some (some (.own e))) : σ[j]? ≠ some (some (.ref p)) := fun hj => by
  obtain ⟨a2, k1, _, _, _, k5⟩ := r.sl j _ he
  rw [k1] at hj
  cases hj
  obtain ⟨u, hu⟩ := k5.there
  rw [h] at hu; cases hu
section
variable {X : Cx} {B : Gr} {W : WX} {pos : Pos} {fa : FM}
theorem s_pm2 {i j : Nat} {x y : Str} {a b : Expr} {px py pt pt2 : Pos} {kt k2 : Nat} (cc : Cc X W) (lx : Ll X i x) (ly : Ll X j y) (hij : i ≠ j) (ha : QM X B W [a, b] fa)
    (hw : swappedStores [.Tuple [.Name x px, .Name y py] kt pt] (.Tuple [a, b] k2 pt2) X.env = pure (some [x, y]))
    (hs : swapsWithSole [.Tuple [.Name x px, .Name y py] kt pt] (.Tuple [a, b] k2 pt2) pos.line X.env = pure false) :
    QS X B W (.Assign [.Tuple [.Name x px, .Name y py] kt pt] (.Tuple [a, b] k2 pt2) pos) (fPm2 i j fa) := by
  obtain ⟨t, b1, b2⟩ := ha
  refine ⟨_, ps_par cc.calm cc.nd lx.ix ly.ix hij lx.loc ly.loc b1 hw hs, fun n E S σ H Hf ρ Q r p => b2 n E S σ H Hf ρ _ r ?_⟩
  unfold fPm2 at p
  cases e1 : fa n E S with
  | stk => rw [e1] at p; exact p
  | exc y S1 => rw [e1] at p; exact fun c od H' Hf' ρ' a b d => p c od σ H' Hf' ρ' (r.step a b) b.hf b.pre d
  | ok ds S1 =>
    rw [e1] at p
    intro vs H' Hf' ρ' h1 h2 w
    match ds, p, w with
    | [d1, d2], p, w =>
      obtain ⟨v1, r1, rfl, w1, u1, a2⟩ := w.head r
      obtain ⟨v2, r2, rfl, w2, u2, a3⟩ := a2.head r
      cases a3
      refine ⟨v1, v2, rfl, p _ _ _ _ (((r.step h1 h2).setSl i w1 fun p d e e2 j' e' he => ?_).setSl j w2 fun p d e e2 j' e' he => ?_) h2.hf h2.pre⟩
      · exact r.oldOwn (u1 p d e e2).1 j' e' he
      · rcases get_set_own he with ⟨rfl, x1, hl⟩ | ⟨hj, he⟩
        · cases x1
          rw [List.getElem?_set_self (by rw [← r.len]; exact hl)]
          intro z
          cases z
          exact (u1 _ e' rfl rfl).2 0 d (by subst e; rfl) (by subst e2; rfl)
        · rw [List.getElem?_set_ne hj]
          exact r.oldOwn (u2 p d e e2).1 j' e' he
theorem s_pm3 {i j k : Nat} {x y z : Str} {a b c : Expr} {px py pz pt pt2 : Pos} {kt k2 : Nat} (cc : Cc X W) (lx : Ll X i x) (ly : Ll X j y) (lz : Ll X k z) (hij : i ≠ j) (hik : i ≠ k) (hjk : j ≠ k) (ha : QM X B W [a, b, c] fa)
    (hw : swappedStores [.Tuple [.Name x px, .Name y py, .Name z pz] kt pt] (.Tuple [a, b, c] k2 pt2) X.env = pure (some [x, y, z]))
    (hs : swapsWithSole [.Tuple [.Name x px, .Name y py, .Name z pz] kt pt] (.Tuple [a, b, c] k2 pt2) pos.line X.env = pure false) :
    QS X B W (.Assign [.Tuple [.Name x px, .Name y py, .Name z pz] kt pt] (.Tuple [a, b, c] k2 pt2) pos) (fPm3 i j k fa) := by
  obtain ⟨t, b1, b2⟩ := ha
  refine ⟨_, ps_par3 cc.calm cc.nd lx.ix ly.ix lz.ix hij hik hjk lx.loc ly.loc lz.loc b1 hw hs, fun n E S σ H Hf ρ Q r p => b2 n E S σ H Hf ρ _ r ?_⟩
  unfold fPm3 at p
  cases e1 : fa n E S with
  | stk => rw [e1] at p; exact p
  | exc y S1 => rw [e1] at p; exact fun c od H' Hf' ρ' a b d => p c od σ H' Hf' ρ' (r.step a b) b.hf b.pre d
  | ok ds S1 =>
    rw [e1] at p
    intro vs H' Hf' ρ' h1 h2 w
    match ds, p, w with
    | [d1, d2, d3], p, w =>
      obtain ⟨v1, r1, rfl, w1, u1, a2⟩ := w.head r
      obtain ⟨v2, r2, rfl, w2, u2, a3⟩ := a2.head r
      obtain ⟨v3, r3, rfl, w3, u3, a4⟩ := a3.head r
      cases a4
      refine ⟨v1, v2, v3, rfl, p _ _ _ _ ((((r.step h1 h2).setSl i w1 fun p d e e2 j' e' he => ?_).setSl j w2 fun p d e e2 j' e' he => ?_).setSl k w3 fun p d e e2 j' e' he => ?_) h2.hf h2.pre⟩
      · exact r.oldOwn (u1 p d e e2).1 j' e' he
      · rcases get_set_own he with ⟨rfl, x1, hl⟩ | ⟨hj, he⟩
        · cases x1
          rw [List.getElem?_set_self (by rw [← r.len]; exact hl)]
          intro z
          cases z
          exact (u1 _ e' rfl rfl).2 0 d (by subst e; rfl) (by subst e2; rfl)
        · rw [List.getElem?_set_ne hj]
          exact r.oldOwn (u2 p d e e2).1 j' e' he
      · rcases get_set_own he with ⟨rfl, x1, hl⟩ | ⟨hj, he⟩
        · cases x1
          rw [List.getElem?_set_self (by simpa [← r.len] using hl)]
          intro z
          cases z
          exact (u2 _ e' rfl rfl).2 0 d (by subst e; rfl) (by subst e2; rfl)
        · rw [List.getElem?_set_ne hj]
          rcases get_set_own he with ⟨rfl, x1, hl⟩ | ⟨hj, he⟩
          · cases x1
            rw [List.getElem?_set_self (by rw [← r.len]; exact hl)]
            intro z
            cases z
            exact (u1 _ e' rfl rfl).2 1 d (by subst e; rfl) (by subst e2; rfl)
          · rw [List.getElem?_set_ne hj]
            exact r.oldOwn (u3 p d e e2).1 j' e' he
end
theorem Ams.step {K : PySem.W.Frag} {H0 H Hf H' Hf' : Hp} {ρ ρ' : List Addr} (t : Tr H Hf ρ H' Hf' ρ') : ∀ {l : List Sl} {r : List V}, Ams K H0 H Hf ρ l r → Ams K H0 H' Hf' ρ' l r
  | [], r, a => a
  | .fz d :: l, r, a => by
    obtain ⟨v, r', rfl, k, a⟩ := a
    exact ⟨v, r', rfl, k.mono t.hf t.pre, a.step t⟩
  | .own d :: l, r, a => by
    obtain ⟨q, r', rfl, k1, k2, k3, k4, k5, a⟩ := a
    obtain ⟨o, ho⟩ := k4.there
    refine ⟨q, r', rfl, k1, ?_, fun z => ?_, k4.mono k3 t, k5, a.step t⟩
    · cases z : Hf' q with
      | none => rfl
      | some u =>
        rcases t.fresh q (by rw [z]; simp) with z | z
        · exact absurd k2 z
        · rw [ho] at z; cases z
    · rcases t.newh q z with z | z
      · exact k3 z
      · rw [ho] at z; cases z
section
variable {X : Cx} {B : Gr} {W : WX} {pos : Pos} {fa : FM}
/-- a tuple is laid first: names that comprehensions read -/
theorem s_pmt2 {i j : Nat} {x y : Str} {a b : Expr} {px py pt pt2 : Pos} {kt k2 : Nat} (cc : Cc X W) (lx : Lr X i x) (ly : Lr X j y) (ha : QM X B W [a, b] fa)
    (hs : swapsWithSole [.Tuple [.Name x px, .Name y py] kt pt] (.Tuple [a, b] k2 pt2) pos.line X.env = pure false) (hw : swappedStores [.Tuple [.Name x px, .Name y py] kt pt] (.Tuple [a, b] k2 pt2) X.env = pure none)
    (h1 : (assignEach [.Tuple [.Name x px, .Name y py] kt pt] X.env).map (·.2) = [assign (.Tuple [.Name x px, .Name y py] kt pt) X.env])
    (ht1 : (assignEach [.Name x px, .Name y py] X.env).map (·.2) = assign (.Name x px) X.env :: (assignEach [.Name y py] X.env).map (·.2)) (ht2 : (assignEach [.Name y py] X.env).map (·.2) = assign (.Name y py) X.env :: (assignEach [] X.env).map (·.2))
    (hn : (assignEach [.Name x px, .Name y py] X.env).length = 2) (hst : (assignEach [.Name x px, .Name y py] X.env).findIdx? (·.1) = none) :
    QS X B W (.Assign [.Tuple [.Name x px, .Name y py] kt pt] (.Tuple [a, b] k2 pt2) pos) (fPm2 i j fa) := by
  obtain ⟨t, b1, b2⟩ := ha
  refine ⟨_, ps_asg (pe_tup b1) (pg_tup cc.calm (pgs_cons (pg_name lx.nd lx.ix lx.loc lx.fn) (pgs_cons (pg_name ly.nd ly.ix ly.loc ly.fn) pgs_nil ht2) ht1) hn hst) hs hw h1, fun n E S σ H Hf ρ Q r p => b2 n E S σ H Hf ρ _ r ?_⟩
  unfold fPm2 at p
  cases e1 : fa n E S with
  | stk => rw [e1] at p; exact p
  | exc y S1 => rw [e1] at p; exact fun c od H' Hf' ρ' a b d => p c od σ H' Hf' ρ' (r.step a b) b.hf b.pre d
  | ok ds S1 =>
    rw [e1] at p
    intro vs H1 Hf1 ρ1 g1 g2 w
    match ds, p, w with
    | [d1, d2], p, w =>
      obtain ⟨v1, r1, rfl, -, -, a2⟩ := w.head r
      obtain ⟨v2, r2, rfl, -, -, a3⟩ := a2.head r
      cases a3
      refine ⟨by show 2 ≤ sizeLine; decide, fun q hq => ⟨q, _, rfl, SqT.of upd_same, rfl, v1, _, rfl, v2, _, rfl, rfl, ?_⟩⟩
      have t3 : Tr H1 Hf1 ρ1 (upd H1 q (.tup [v1, v2])) Hf1 ρ1 := Tr.own hq
      have g3 : HR X.K (upd H1 q (.tup [v1, v2])) Hf1 ρ1 S1 := g1.own (g1.hnone hq) (g1.notin hq)
      have w := w.step t3
      have h2 := g2.trans t3
      obtain ⟨v1', r1', e3, w1, u1, a2⟩ := w.head r
      cases e3
      obtain ⟨v2', r2', e4, w2, u2, a3⟩ := a2.head r
      cases e4
      refine p _ _ _ _ (((r.step g3 h2).setSl i w1 fun p d e e2 j' e' he => ?_).setSl j w2 fun p d e e2 j' e' he => ?_) h2.hf h2.pre
      · exact r.oldOwn (u1 p d e e2).1 j' e' he
      · rcases get_set_own he with ⟨rfl, x1, hl⟩ | ⟨hj, he⟩
        · cases x1
          rw [List.getElem?_set_self (by rw [← r.len]; exact hl)]
          intro z
          cases z
          exact (u1 _ e' rfl rfl).2 0 d (by subst e; rfl) (by subst e2; rfl)
        · rw [List.getElem?_set_ne hj]
          exact r.oldOwn (u2 p d e e2).1 j' e' he
end
theorem sw2c {env : PySem.Env} {x y : Str} {px py pt pt2 : Pos} {kt k2 : Nat} {a b : Expr} (hk : env.scope.kind = .function) (hx : env.scope.names.lookup x = some .cell ∨ env.scope.names.lookup y = some .cell)
    (h1 : ([a, b].any fun | .Starred .. => true | _ => false) = false) :
    swappedStores [.Tuple [.Name x px, .Name y py] kt pt] (.Tuple [a, b] k2 pt2) env = pure none := by
  have hb : env.blockKind = .function := by unfold PySem.Env.blockKind; rw [hk]; rfl
  unfold swappedStores
  dsimp only
  generalize hA : List.all [a, b] (foldedForSure 8) = A at *
  generalize hB : List.all [a, b] (constantsAlone 8) = C at *
  rw [if_neg (by rw [hb]; exact Bool.false_ne_true)]
  refine Eq.trans (if_neg (fun z => Bool.false_ne_true (h1.symm.trans z))) ?_
  generalize hF : List.filterMap _ _ = F
  have e : F.length ≠ 2 := by
    rw [← hF]
    rw [List.filterMap_cons, List.filterMap_cons, List.filterMap_nil]
    dsimp only
    have c1 : (some NameKind.cell == some NameKind.local) = false := by decide
    rcases hx with hx | hx
    · have kx : env.kindOf x = some .cell := hx
      rw [kx, c1]
      simp only [Bool.false_and, Bool.false_eq_true, if_false]
      split <;> simp
    · have kx : env.kindOf y = some .cell := hx
      rw [kx, c1]
      simp only [Bool.false_and, Bool.false_eq_true, if_false]
      split <;> simp
  rw [if_pos (by simp [e])]
/-- a display of constants alone is folded: no names change places -/
theorem swk {env : PySem.Env} {ts vs : List Expr} {pt pt2 : Pos} {kt k2 : Nat} (h2 : vs.all (foldedForSure 8) = true) :
    swappedStores [.Tuple ts kt pt] (.Tuple vs k2 pt2) env = pure none := by
  unfold swappedStores
  dsimp only
  generalize hA : List.all vs (foldedForSure 8) = A at *
  subst h2
  split
  · rfl
  · refine Eq.trans ?_ rfl
    split
    · rfl
    · simp
/-! ### range with a step -/
def rngC (lo c : Int) (n : Nat) : List D := (List.range n).map fun i : Nat => .int (lo + (i : Int) * c)
def rng3? : List D → Option (List D)
  | [.int i, .int j, .int c] => if (decide (c ≠ 0) && decide (c.natAbs < 1073741824) && Builtin.Range.small i j c && decide (0 ≤ Builtin.Range.rangeSize i j c)) = true then some (rngC i c (Builtin.Range.rangeSize i j c).toNat) else none
  | _ => none
theorem walk_rngC {K : PySem.W.Frag} {lo c : Int} {n : Nat} {Hf : Hp} {ρ : List Addr} : WalkD K (Itc lo c n) (rngC lo c n) Hf ρ := by
  intro H1 Hf1 ρ1 S1 hr ex pr i
  unfold rngC
  refine ⟨fun d e => ?_, fun hl => (by simpa using hl : n ≤ i)⟩
  rw [List.getElem?_map] at e
  cases z : (List.range n)[i]? with
  | none => rw [z] at e; cases e
  | some j =>
    rw [z] at e
    obtain ⟨hj, ej⟩ := List.getElem?_eq_some_iff.mp z
    simp at hj ej
    cases e
    refine ⟨hj, fun x H2 y => ?_⟩
    obtain ⟨rfl, rfl⟩ := y
    exact ⟨Hf1, hr, Tr.refl _ _ _, by rw [ej]; rfl⟩
section
variable {X : Cx} {B : Gr} {W : WX} {tg : Expr} {pos p1 : Pos} {fa : FA}
theorem i_r3 {a b c : Expr} (hb : Blt X "range") (ha : QA X B W [a, b, c] fa) (hs : starEach [a, b, c] X.env = (false, eval a X.env) :: starEach [b, c] X.env) (hpl : (backTo pos (starEach [b, c] X.env)).any (·.1) = false) : QI X B W tg (.Call (.Name "range" p1) [a, b, c] [] pos) (fLift rng3? fa) := by
  obtain ⟨t, a1, a2⟩ := ha
  refine ⟨_, pi_range3 hb.gl hb.free a1 hs hpl, fun n E S σ H Hf ρ R r p => a2 n E S σ H Hf ρ _ r (lift_post p fun ds l S1 vs H' Hf' ρ' e h1 h2 w k => ?_)⟩
  unfold rng3? at e
  split at e
  · rename_i i j c
    split at e
    · rename_i hc
      cases e
      simp only [Bool.and_eq_true, decide_eq_true_eq] at hc
      obtain ⟨v1, r1, rfl, w1, w2⟩ := w
      obtain ⟨v2, r2, rfl, w2, w3⟩ := w2
      obtain ⟨v3, r3, rfl, w3, w4⟩ := w3
      cases w4
      have w1 : v1 = .int i := w1
      have w2 : v2 = .int j := w2
      have w3 : v3 = .int c := w3
      refine ⟨i, j, c, (Builtin.Range.rangeSize i j c).toNat, by rw [w1, w2, w3], ⟨hc.1.1.1, hc.1.1.2, hc.1.2, by omega⟩, k _ H' Hf' ρ' h1 h2 walk_rngC⟩
    · cases e
  · cases e
/-- a list's items with their places -/
def enumD (i : Nat) : List D → List D
  | [] => []
  | d :: l => .tup [.int i, d] :: enumD (i + 1) l
def enum? : List D → Option (List D)
  | [.lst l] => some (enumD 0 l)
  | _ => none
theorem enumD_get : ∀ {l : List D} {k i : Nat} {d : D}, (enumD k l)[i]? = some d → ∃ a, l[i]? = some a ∧ d = .tup [.int (k + i : Nat), a]
  | [], k, i, d, h => by simp [enumD] at h
  | a :: l, k, 0, d, h => by simp [enumD] at h; exact ⟨a, rfl, by rw [← h]; rfl⟩
  | a :: l, k, i + 1, d, h => by
    simp only [enumD, List.getElem?_cons_succ] at h
    obtain ⟨x, h1, h2⟩ := enumD_get h
    refine ⟨x, h1, ?_⟩
    have : k + 1 + i = k + (i + 1) := by omega
    rw [h2, this]
theorem enumD_len : ∀ (l : List D) (k : Nat), (enumD k l).length = l.length
  | [], _ => rfl
  | a :: l, k => by simp only [enumD, List.length_cons, enumD_len l]
theorem i_enum {e : Expr} {elts : List Expr} {kk : Nat} {tpos : Pos} (hb : Blt X "enumerate") (ha : QA X B W [e] fa) (hs : starEach [e] X.env = [(false, eval e X.env)]) : QI X B W (.Tuple elts kk tpos) (.Call (.Name "enumerate" p1) [e] [] pos) (fLift enum? fa) := by
  obtain ⟨t, a1, a2⟩ := ha
  refine ⟨_, pi_enum hb.gl hb.free a1 hs, fun n E S σ H Hf ρ R r p => a2 n E S σ H Hf ρ _ r (lift_post p fun ds l S1 vs H' Hf' ρ' e h1 h2 w k => ?_)⟩
  unfold enum? at e
  split at e
  · rename_i l
    cases e
    obtain ⟨v1, r1, rfl, w1, w2⟩ := w
    cases w2
    obtain ⟨a, xs, rfl, k1, k2⟩ := (show Dt X.K Hf' ρ' (.lst l) v1 from w1)
    refine ⟨a, xs, rfl, SqL.of (h1.sub _ _ k1), k _ H' Hf' ρ' h1 h2 ?_⟩
    intro H1 Hf1 ρ1 S1 hr ex pr i
    have g1 : SqL X.K H1 a xs := SqL.of (hr.sub _ _ (ex _ _ k1))
    refine ⟨fun d e => ?_, fun hl => ⟨xs, g1, ?_⟩⟩
    · obtain ⟨da, x1, rfl⟩ := enumD_get e
      obtain ⟨va, y1, y2⟩ := k2.get x1
      refine ⟨⟨xs, va, g1, y1⟩, fun x H2 y => ?_⟩
      obtain ⟨T, u1, rfl, hT, rfl, z1⟩ := y
      have z1 := z1 xs g1
      rw [y1] at z1; cases z1
      have := pair_new (a := .int (0 + i : Nat)) (x := .int (i : Nat)) hr hT (by simp [Dt]) (y2.mono ex pr)
      exact this
    · rw [enumD_len] at hl
      rw [← k2.length]
      omega
  · cases e
end
/-! ### in, among data of any depth -/
def gInD2 (a b : D) : Option Bool := match a.py, b.py with
  | some p, some (.tuple ds) => if (SeqAt.shaped p && SeqAt.shaped (.tuple ds)) = true then some (ds.any fun z => PyData.eqv z p) else none
  | _, _ => none
def gInX (a b : D) : Option D := (gInD2 a b).map D.bl
def gNinX (a b : D) : Option D := (gInD2 a b).map fun r => D.bl (!r)
theorem gInD2_inv {a b : D} {r : Bool} (h : gInD2 a b = some r) : ∃ p ds, a.py = some p ∧ b.py = some (.tuple ds) ∧ SeqAt.shaped p = true ∧ SeqAt.shaped (.tuple ds) = true ∧ r = ds.any fun z => PyData.eqv z p := by
  unfold gInD2 at h
  split at h
  · rename_i p ds e1 e2
    split at h
    · rename_i hc
      rw [Bool.and_eq_true] at hc
      cases h
      exact ⟨p, ds, e1, e2, hc.1, hc.2, rfl⟩
    · cases h
  · cases h
section
variable {X : Cx}
theorem opq_inX (hu : X.A.units + 65 < cLine) : OpQ X (compareOp .In) gInX := by
  refine ⟨fun x y H Q => ∃ d ds, Dp X.K H x d ∧ Dp X.K H y (.tuple ds) ∧ SeqAt.shaped d = true ∧ SeqAt.shaped (.tuple ds) = true ∧ Q (.bl (ds.any fun z => PyData.eqv z d)) H, ?_, fun a b x y H Hf ρ S Q d hr wa wb e q => ?_⟩
  · intro pins s σ H x y v u Q I rx ry h
    obtain ⟨d, ds, hd, he, sd, se, q⟩ := h
    obtain ⟨as, r1⟩ := Dp.reads I d x v hd rx
    obtain ⟨bs, r2⟩ := Dp.reads I (.tuple ds) y u he ry
    exact SeqAt.in_tuple_reads r2 r1 (SeqAt.canLay_of_shaped se) (SeqAt.canLay_of_shaped sd) (room_in_shaped sd hu) ⟨.bl _, H, I, rfl, q⟩
  · simp only [gInX, Option.map_eq_some_iff] at e
    obtain ⟨r, e, rfl⟩ := e
    obtain ⟨p, ds, e1, e2, s1, s2, rfl⟩ := gInD2_inv e
    exact ⟨p, ds, wa.dp hr e1, wb.dp hr e2, s1, s2, q _ _ _ _ hr (Tr.refl _ _ _) rfl⟩
theorem opq_ninX (hu : X.A.units + 65 < cLine) : OpQ X (compareOp .NotIn) gNinX := by
  refine ⟨fun x y H Q => ∃ d ds, Dp X.K H x d ∧ Dp X.K H y (.tuple ds) ∧ SeqAt.shaped d = true ∧ SeqAt.shaped (.tuple ds) = true ∧ Q (.bl (!ds.any fun z => PyData.eqv z d)) H, ?_, fun a b x y H Hf ρ S Q d hr wa wb e q => ?_⟩
  · intro pins s σ H x y v u Q I rx ry h
    obtain ⟨d, ds, hd, he, sd, se, q⟩ := h
    obtain ⟨as, r1⟩ := Dp.reads I d x v hd rx
    obtain ⟨bs, r2⟩ := Dp.reads I (.tuple ds) y u he ry
    exact SeqAt.notIn_tuple_reads r2 r1 (SeqAt.canLay_of_shaped se) (SeqAt.canLay_of_shaped sd) (room_in_shaped sd hu) ⟨.bl _, H, I, rfl, q⟩
  · simp only [gNinX, Option.map_eq_some_iff] at e
    obtain ⟨r, e, rfl⟩ := e
    obtain ⟨p, ds, e1, e2, s1, s2, rfl⟩ := gInD2_inv e
    exact ⟨p, ds, wa.dp hr e1, wb.dp hr e2, s1, s2, q _ _ _ _ hr (Tr.refl _ _ _) rfl⟩
end
theorem Wd.hu2 {X : Cx} {P : Program} {w : World} {K : PySem.W.Frag} {mg : Str → Option Value} {base : Heap} {k : Nat} (h : Wd X P w K mg base k) : X.A.units + 65 < cLine := by
  have := h.room.un
  omega
end DL

end

section
set_option autoImplicit false
set_option autoImplicit false
namespace DL
open PySem PySem.Spec PyProof.Rows L2
/-! ### is, is not of bools -/
def gIsB : D → D → Option D
  | .bl a, .bl b => some (.bl (decide (a = b)))
  | _, _ => none
def gIsNB : D → D → Option D
  | .bl a, .bl b => some (.bl (!decide (a = b)))
  | _, _ => none
section
variable {X : Cx}
theorem opq_isB : OpQ X (compareOp .Is) gIsB := by
  refine ⟨_, op_isBl, fun a b x y H Hf ρ S Q d hr wa wb e q => ?_⟩
  unfold gIsB at e
  split at e
  · cases e
    exact ⟨_, _, wa, wb, q _ _ _ _ hr (Tr.refl _ _ _) rfl⟩
  · cases e
theorem opq_isNB : OpQ X (compareOp .IsNot) gIsNB := by
  refine ⟨_, op_notBl, fun a b x y H Hf ρ S Q d hr wa wb e q => ?_⟩
  unfold gIsNB at e
  split at e
  · cases e
    exact ⟨_, _, wa, wb, q _ _ _ _ hr (Tr.refl _ _ _) rfl⟩
  · cases e
end
end DL

end

section
set_option autoImplicit false
set_option autoImplicit false
namespace DL
open PySem PySem.Spec PyProof.Rows L2

/-- as rfl, but simp shall not see it -/
theorem nrf {α : Sort _} {a b : α} (h : a = b := by rfl) : a = b := h
/-- what comes behind a statement; not looked into before its turn -/
def thenF (r : SRes) (s : FS) (n : Nat) : SRes := match r with
  | .nx E S => s n E S
  | r => r
@[simp] theorem then_nx {E : Env} {S : Store} {s : FS} {n : Nat} : thenF (.nx E S) s n = s n E S := nrf rfl
@[simp] theorem then_rt {d : D} {S : Store} {s : FS} {n : Nat} : thenF (.rt d S) s n = .rt d S := nrf rfl
@[simp] theorem then_ex {x : Exc} {E : Env} {S : Store} {s : FS} {n : Nat} : thenF (.ex x E S) s n = .ex x E S := nrf rfl
@[simp] theorem then_bk {E : Env} {S : Store} {s : FS} {n : Nat} : thenF (.bk E S) s n = .bk E S := nrf rfl
@[simp] theorem then_ct {E : Env} {S : Store} {s : FS} {n : Nat} : thenF (.ct E S) s n = .ct E S := nrf rfl
@[simp] theorem then_stk {s : FS} {n : Nat} : thenF .stk s n = .stk := nrf rfl
def ifF (r : Res Bool) (s t : FS) (n : Nat) (E : Env) : SRes := match r with
  | .ok true S1 => s n E S1
  | .ok false S1 => t n E S1
  | .exc x S1 => .ex x E S1
  | .stk => .stk
@[simp] theorem if_tt {E : Env} {S : Store} {s t : FS} {n : Nat} : ifF (.ok true S) s t n E = s n E S := nrf rfl
@[simp] theorem if_ff {E : Env} {S : Store} {s t : FS} {n : Nat} : ifF (.ok false S) s t n E = t n E S := nrf rfl
@[simp] theorem if_exc {x : Exc} {E : Env} {S : Store} {s t : FS} {n : Nat} : ifF (.exc x S) s t n E = .ex x E S := nrf rfl
def ifE {α : Type} (r : Res Bool) (f g : Nat → Env → Store → Res α) (n : Nat) (E : Env) : Res α := match r with
  | .ok true S1 => f n E S1
  | .ok false S1 => g n E S1
  | .exc x S1 => .exc x S1
  | .stk => .stk
@[simp] theorem ifE_tt {α : Type} {E : Env} {S : Store} {f g : Nat → Env → Store → Res α} {n : Nat} : ifE (.ok true S) f g n E = f n E S := nrf rfl
@[simp] theorem ifE_ff {α : Type} {E : Env} {S : Store} {f g : Nat → Env → Store → Res α} {n : Nat} : ifE (.ok false S) f g n E = g n E S := nrf rfl
@[simp] theorem ifE_exc {α : Type} {x : Exc} {E : Env} {S : Store} {f g : Nat → Env → Store → Res α} {n : Nat} : ifE (.exc x S) f g n E = .exc x S := nrf rfl
def asB (r : Res D) : Res Bool := match r with
  | .ok (.bl b) S => .ok b S
  | .exc x S => .exc x S
  | _ => .stk
@[simp] theorem asB_ok {b : Bool} {S : Store} : asB (.ok (.bl b) S) = .ok b S := nrf rfl
@[simp] theorem asB_exc {x : Exc} {S : Store} : asB (.exc x S) = .exc x S := nrf rfl
/-! ### how the pieces answer: for simp -/
section
variable {α β : Type} {n : Nat} {E : Env} {S : Store} {d e : D} {ds : List D} {f f1 f2 f3 : FE} {g : FA} {c c1 c2 : FT} {s s1 s2 : FS} {i j : Nat}
@[simp] theorem e_bind_ok (a : α) (S : Store) (k : α → Store → Res β) : Res.bind (.ok a S) k = k a S := nrf rfl
@[simp] theorem e_bind_exc (a : Exc) (S : Store) (k : α → Store → Res β) : Res.bind (.exc a S) k = .exc a S := nrf rfl
@[simp] theorem e_bind_stk (k : α → Store → Res β) : Res.bind .stk k = .stk := nrf rfl
@[simp] theorem e_bindN_ok (a : α) (S : Store) (k : α → Store → Res β) : Res.bindN (.ok a S) k = k a S := nrf rfl
@[simp] theorem e_C : fC d n E S = .ok d S := nrf rfl
theorem e_Var : fVar i n E S = (match E[i]? with | some (some (.fz d)) => .ok d S | _ => .stk) := rfl
theorem e_var_of (h : E[i]? = some (some (.fz d))) : fVar i n E S = .ok d S := by unfold fVar; rw [h]
@[simp] theorem e_Op {g : D → D → Option D} : fOp g f1 f2 n E S = (f1 n E S).bind fun a S1 => (f2 n E S1).bind fun b S2 => match g a b with | some d => .ok d S2 | none => .stk := nrf rfl
@[simp] theorem e_Un {g : D → Option D} : fUn g f n E S = (f n E S).bind fun a S1 => match g a with | some d => .ok d S1 | none => .stk := nrf rfl
@[simp] theorem e_CB {m : List D → Option D} : fCB m g n E S = (g n E S).bind fun a S1 => match m a with | some d => .ok d S1 | none => .stk := nrf rfl
@[simp] theorem e_Call {m : MF} : fCall m g n E S = (g n E S).bind fun a S1 => m a S1 := nrf rfl
@[simp] theorem e_Call0 {m : MF} : fCall0 m n E S = m [] S := nrf rfl
@[simp] theorem e_Nil : fNil n E S = .ok [] S := nrf rfl
@[simp] theorem e_Cons : fCons f g n E S = (f n E S).bind fun d S1 => (g n E S1).bind fun ds S2 => .ok (d :: ds) S2 := nrf rfl
@[simp] theorem e_Tup : fTup g n E S = (g n E S).bind fun ds S1 => if ds.length ≤ 1000 then .ok (.tup ds) S1 else .stk := nrf rfl
@[simp] theorem e_Lst : fLst g n E S = (g n E S).bind fun ds S1 => if ds.length ≤ 1000 then .ok (.lst ds) S1 else .stk := nrf rfl
@[simp] theorem e_And : fAnd f1 f2 n E S = ifE (asB (f1 n E S)) f2 (fC (.bl false)) n E := by
  unfold fAnd ifE Res.bind asB fC
  cases f1 n E S with
  | ok d S1 => cases d <;> first | rfl | (rename_i b; cases b <;> rfl)
  | _ => rfl
@[simp] theorem e_Or : fOr f1 f2 n E S = ifE (asB (f1 n E S)) (fC (.bl true)) f2 n E := by
  unfold fOr ifE Res.bind asB fC
  cases f1 n E S with
  | ok d S1 => cases d <;> first | rfl | (rename_i b; cases b <;> rfl)
  | _ => rfl
@[simp] theorem e_Not : fNot f n E S = (f n E S).bind fun d S1 => match d with
  | .bl b => .ok (.bl (!b)) S1
  | _ => .stk := nrf rfl
@[simp] theorem e_Bool : fBool f n E S = asB (f n E S) := by
  unfold fBool Res.bind asB
  cases f n E S with
  | ok d S1 => cases d <;> rfl
  | _ => rfl
@[simp] theorem e_Tru : fTru f n E S = (f n E S).bind fun d S1 => match truD d with
  | some b => .ok b S1
  | none => .stk := nrf rfl
@[simp] theorem e_NotT : fNotT c n E S = (c n E S).bind fun b S1 => .ok (!b) S1 := nrf rfl
@[simp] theorem e_AndT : fAndT c1 c2 n E S = ifE (c1 n E S) c2 (fun _ _ S => .ok false S) n E := by
  unfold fAndT ifE Res.bind
  cases c1 n E S with
  | ok b S1 => cases b <;> rfl
  | _ => rfl
@[simp] theorem e_OrT : fOrT c1 c2 n E S = ifE (c1 n E S) (fun _ _ S => .ok true S) c2 n E := by
  unfold fOrT ifE Res.bind
  cases c1 n E S with
  | ok b S1 => cases b <;> rfl
  | _ => rfl
@[simp] theorem e_If : fIf c f1 f2 n E S = ifE (c n E S) f1 f2 n E := by
  unfold fIf ifE Res.bind
  cases c n E S with
  | ok b S1 => cases b <;> rfl
  | _ => rfl
@[simp] theorem e_Chain {g g' : D → D → Option D} : fChain g g' f1 f2 f3 n E S = (f1 n E S).bind fun a S1 => (f2 n E S1).bind fun b S2 => match g a b with
  | some (.bl true) => (f3 n E S2).bind fun c S3 => match g' b c with
    | some d => .ok d S3
    | none => .stk
  | some (.bl false) => .ok (.bl false) S2
  | _ => .stk := nrf rfl
@[simp] theorem e_Yes : fYes n E S = .ok true S := nrf rfl
@[simp] theorem e_Skip : fSkip n E S = .nx E S := nrf rfl
@[simp] theorem e_Seq : fSeq s1 s2 n E S = thenF (s1 n E S) s2 n := nrf rfl
@[simp] theorem e_Frz : fFrz i s n E S = s n (frz E i) S := nrf rfl
@[simp] theorem e_Set : fSet i f n E S = (match f n E S with
  | .ok d S1 => .nx (E.set i (some (.fz d))) S1
  | .exc x S1 => .ex x E S1
  | .stk => .stk) := nrf rfl
@[simp] theorem e_SetO : fSetO i f n E S = (match f n E S with
  | .ok d S1 => .nx (E.set i (some (.own d))) S1
  | .exc x S1 => .ex x E S1
  | .stk => .stk) := nrf rfl
@[simp] theorem e_Ret : fRet f n E S = (match f n E S with
  | .ok d S1 => .rt d S1
  | .exc x S1 => .ex x E S1
  | .stk => .stk) := nrf rfl
@[simp] theorem e_Exp : fExp f n E S = (match f n E S with
  | .ok _ S1 => .nx E S1
  | .exc x S1 => .ex x E S1
  | .stk => .stk) := nrf rfl
@[simp] theorem e_IfS : fIfS c s1 s2 n E S = ifF (c n E S) s1 s2 n E := nrf rfl
@[simp] theorem e_Raise {C : Str} : fRaise C n E S = .ex ⟨C, none⟩ E S := nrf rfl
@[simp] theorem e_Brk : fBrk n E S = .bk E S := nrf rfl
@[simp] theorem e_Cnt : fCnt n E S = .ct E S := nrf rfl
@[simp] theorem e_gN : gN i d E = some (E.set i (some (.fz d))) := nrf rfl
@[simp] theorem e_gT_t {gs : Tgts} {l : List D} : gT gs (.tup l) E = gs l E := nrf rfl
@[simp] theorem e_gNils : gNils [] E = some E := nrf rfl
@[simp] theorem e_gConss {t : Tgt} {gs : Tgts} {l : List D} : gConss t gs (d :: l) E = (t d E).bind (gs l) := nrf rfl
@[simp] theorem e_Asg {t : Tgt} : fAsg t f n E S = (match f n E S with
  | .ok d S1 => match t d E with
    | some E' => .nx E' S1
    | none => .stk
  | .exc x S1 => .ex x E S1
  | .stk => .stk) := nrf rfl
@[simp] theorem e_For {t : Tgt} : fFor g t s n E S = (match g n E S with
  | .ok ds S1 => forL t (s n) ds E S1
  | .exc x S1 => .ex x E S1
  | .stk => .stk) := nrf rfl
@[simp] theorem e_forL_nil {t : Tgt} {b : Env → Store → SRes} : forL t b [] E S = .nx E S := nrf rfl
theorem e_forL_cons {t : Tgt} {b : Env → Store → SRes} {l : List D} : forL t b (d :: l) E S = (match t d E with
    | none => .stk
    | some E1 => match b E1 S with
      | .nx E2 S2 => forL t b l E2 S2
      | .ct E2 S2 => forL t b l E2 S2
      | .bk E2 S2 => .nx E2 S2
      | r => r) := rfl
@[simp] theorem e_While : fWhile c s n E S = whileL (c n) (s n) n E S := nrf rfl
@[simp] theorem e_Lift {h : List D → Option (List D)} : fLift h g n E S = (g n E S).bind fun ds S1 => match h ds with
  | some l => .ok l S1
  | none => .stk := nrf rfl
@[simp] theorem e_body_nx : bodyR (.nx E S) = .ok .non S := nrf rfl
@[simp] theorem e_body_rt : bodyR (.rt d S) = .ok d S := nrf rfl
@[simp] theorem e_body_ex {x : Exc} : bodyR (.ex x E S) = .exc x S := nrf rfl
@[simp] theorem e_body_stk : bodyR .stk = .stk := nrf rfl
@[simp] theorem e_body_bk : bodyR (.bk E S) = .stk := nrf rfl
@[simp] theorem e_body_ct : bodyR (.ct E S) = .stk := nrf rfl
theorem e_Par2 : fPar2 i j g n E S = (match g n E S with
  | .ok [a, b] S1 => .nx ((E.set i (some (.fz a))).set j (some (.fz b))) S1
  | .ok _ _ => .stk
  | .exc x S1 => .ex x E S1
  | .stk => .stk) := rfl
end

theorem e_Par3 {n : Nat} {E : Env} {S : Store} {g : FA} {i j k : Nat} : fPar3 i j k g n E S = (match g n E S with
  | .ok [a, b, c] S1 => .nx (((E.set i (some (.fz a))).set j (some (.fz b))).set k (some (.fz c))) S1
  | .ok _ _ => .stk
  | .exc x S1 => .ex x E S1
  | .stk => .stk) := rfl
@[simp] theorem e_par2 {n : Nat} {E : Env} {S : Store} {f1 f2 : FE} {i j : Nat} : fPar2 i j (fCons f1 (fCons f2 fNil)) n E S = (match f1 n E S with
  | .ok a S1 => match f2 n E S1 with
    | .ok b S2 => .nx ((E.set i (some (.fz a))).set j (some (.fz b))) S2
    | .exc x S1 => .ex x E S1
    | .stk => .stk
  | .exc x S1 => .ex x E S1
  | .stk => .stk) := by
  unfold fPar2 fCons fNil
  cases f1 n E S with
  | ok a S1 => cases h : f2 n E S1 <;> simp [h]
  | _ => rfl
@[simp] theorem e_par3 {n : Nat} {E : Env} {S : Store} {f1 f2 f3 : FE} {i j k : Nat} : fPar3 i j k (fCons f1 (fCons f2 (fCons f3 fNil))) n E S = (match f1 n E S with
  | .ok a S1 => match f2 n E S1 with
    | .ok b S2 => match f3 n E S2 with
      | .ok c S3 => .nx (((E.set i (some (.fz a))).set j (some (.fz b))).set k (some (.fz c))) S3
      | .exc x S1 => .ex x E S1
      | .stk => .stk
    | .exc x S1 => .ex x E S1
    | .stk => .stk
  | .exc x S1 => .ex x E S1
  | .stk => .stk) := by
  unfold fPar3 fCons fNil
  cases f1 n E S with
  | ok a S1 =>
    cases h : f2 n E S1 with
    | ok b S2 => cases h2 : f3 n E S2 <;> simp [h, h2]
    | _ => simp [h]
  | _ => rfl
section
variable {n : Nat} {E : Env} {S : Store} {d a b : D} {i j : Int} {l m : List D} {x y : Bool} {f : FE}
@[simp] theorem e_v0 {v : Nat} : fVar v n E S = (match E[v]? with | some (some (.fz d)) => .ok d S | _ => .stk) := nrf rfl
@[simp] theorem e_r0 {v : Nat} : fRd v n E S = (match E[v]? with | some (some (.fz d)) => .ok d S | some (some (.own d)) => .ok d S | _ => .stk) := nrf rfl
@[simp] theorem o_add : gAdd (.int i) (.int j) = some (.int (i + j)) := nrf rfl
@[simp] theorem o_sub : gSub (.int i) (.int j) = some (.int (i - j)) := nrf rfl
@[simp] theorem o_lt : gLt (.int i) (.int j) = some (.bl (decide (i < j))) := nrf rfl
@[simp] theorem o_le : gLe (.int i) (.int j) = some (.bl (decide (i ≤ j))) := nrf rfl
@[simp] theorem o_gt : gGt (.int i) (.int j) = some (.bl (decide (j < i))) := nrf rfl
@[simp] theorem o_ge : gGe (.int i) (.int j) = some (.bl (decide (j ≤ i))) := nrf rfl
@[simp] theorem o_eqi : gEq (.int i) (.int j) = some (.bl (decide (i = j))) := nrf rfl
@[simp] theorem o_eqb : gEq (.bl x) (.bl y) = some (.bl (decide (x = y))) := nrf rfl
@[simp] theorem o_nei : gNe (.int i) (.int j) = some (.bl (!decide (i = j))) := nrf rfl
@[simp] theorem o_neg : gNeg (.int i) = some (.int (-i)) := nrf rfl
theorem o_addL {l m : List D} (h : l.length + m.length ≤ sizeLine) : gAdd (.lst l) (.lst m) = some (.lst (l ++ m)) := by
  simp only [gAdd]; rw [if_pos h]
theorem o_addT {l m : List D} (h : l.length + m.length ≤ sizeLine) : gAdd (.tup l) (.tup m) = some (.tup (l ++ m)) := by
  simp only [gAdd]; rw [if_pos h]
theorem mulOk_l (h : i.natAbs < 2 ^ 64) : mulOk i j = true := by unfold mulOk; simp only [h, decide_true, Bool.true_or]
theorem mulOk_r (h : j.natAbs < 2 ^ 64) : mulOk i j = true := by unfold mulOk; simp only [h, decide_true, Bool.true_or, Bool.or_true]
theorem o_mul (h : mulOk i j = true) : gMul (.int i) (.int j) = some (.int (i * j)) := by
  show iOp mulOk (fun i j => .int (i * j)) (.int i) (.int j) = _
  unfold iOp; simp [h]
theorem o_mod (h : 0 < j) : gMod (.int i) (.int j) = some (.int (i % j)) := by
  show iOp _ _ (.int i) (.int j) = _
  unfold iOp; simp [h]
theorem o_div (h : 0 < j) (g : j.natAbs.log2 < 9000) : gDiv (.int i) (.int j) = some (.int (i / j)) := by
  show iOp _ _ (.int i) (.int j) = _
  unfold iOp; simp [h, g]
theorem o_pow (h : 0 ≤ j) (h2 : j ≤ 1000000) (g : i.natAbs < 2 ^ 64) : gPow (.int i) (.int j) = some (.int (i ^ j.toNat)) := by
  show iOp _ _ (.int i) (.int j) = _
  unfold iOp; simp only [h, h2, g, decide_true, Bool.and_self, if_pos]
/-- log2 of what is small -/
theorem log2_le {a k : Nat} (h : a < 2 ^ k) : a.log2 ≤ k := by
  by_cases h0 : a = 0
  · subst h0; simp
  · exact Nat.le_of_lt ((Nat.log2_lt h0).mpr h)
theorem mulOk_s {k r : Nat} (h : i.natAbs < 2 ^ k) (g : j.natAbs < 2 ^ r) (s : k + r < 1000000) : mulOk i j = true := by
  unfold mulOk
  have := log2_le h
  have := log2_le g
  have : i.natAbs.log2 + j.natAbs.log2 < 1000000 := by omega
  simp [this]
end
/-! ### loops -/
/-- a while without a break: what I says before each turn, m grows less -/
theorem while_rule {c : Env → Store → Res Bool} {b : Env → Store → SRes} {Q : Env → Store → Prop} (I : Nat → Env → Store → Prop)
    (h : ∀ m E S, I m E S → (∃ S', c E S = .ok false S' ∧ Q E S') ∨ ∃ S1 E2 S2 m', c E S = .ok true S1 ∧ b E S1 = .nx E2 S2 ∧ m' < m ∧ I m' E2 S2) :
    ∀ (m n : Nat) (E : Env) (S : Store), m < n → I m E S → ∃ E' S', whileL c b n E S = .nx E' S' ∧ Q E' S' := by
  intro m
  induction m using Nat.strongRecOn with
  | ind m ih =>
    intro n E S hn hI
    cases n with
    | zero => omega
    | succ n =>
      rcases h m E S hI with ⟨S', h1, h2⟩ | ⟨S1, E2, S2, m', h1, h2, h3, h4⟩
      · exact ⟨E, S', by simp only [whileL, h1], h2⟩
      · obtain ⟨E', S', h5, h6⟩ := ih m' h3 n E2 S2 (by omega) h4
        exact ⟨E', S', by simp only [whileL, h1, h2, h5], h6⟩
/-- a for without an end ahead of time -/
theorem for_rule {t : Tgt} {b : Env → Store → SRes} (I : List D → Env → Store → Prop)
    (h : ∀ d l E S, I (d :: l) E S → ∃ E1 E2 S2, t d E = some E1 ∧ (b E1 S = .nx E2 S2 ∨ b E1 S = .ct E2 S2) ∧ I l E2 S2) :
    ∀ (l : List D) (E : Env) (S : Store), I l E S → ∃ E' S', forL t b l E S = .nx E' S' ∧ I [] E' S'
  | [], E, S, hI => ⟨E, S, rfl, hI⟩
  | d :: l, E, S, hI => by
    obtain ⟨E1, E2, S2, h1, h2, h3⟩ := h d l E S hI
    obtain ⟨E', S', h4, h5⟩ := for_rule I h l E2 S2 h3
    refine ⟨E', S', ?_, h5⟩
    rcases h2 with h2 | h2 <;> simp only [forL, h1, h2, h4]
end DL

end

section
set_option autoImplicit false
set_option autoImplicit false
namespace DL
open PySem PySem.Spec PyProof.Rows L2
/-! ### plain arithmetic -/
theorem mulm {a b g : Int} : (a % g) * (b % g) % g = a * b % g := (Int.mul_emod a b g).symm
theorem mulml {a b g : Int} : (a % g) * b % g = a * b % g := by rw [Int.mul_emod, Int.emod_emod, ← Int.mul_emod]
theorem mulmr {a b g : Int} : a * (b % g) % g = a * b % g := by rw [Int.mul_emod, Int.emod_emod, ← Int.mul_emod]
theorem powm {a g : Int} : ∀ k : Nat, (a % g) ^ k % g = a ^ k % g
  | 0 => by rw [Int.pow_zero, Int.pow_zero]
  | k + 1 => by rw [Int.pow_succ, Int.pow_succ, Int.mul_emod, powm k, Int.emod_emod, ← Int.mul_emod]
theorem pow_two_mul (h : Int) (k : Nat) : h ^ (2 * k) = (h * h) ^ k := by rw [Int.pow_mul]; congr 1; rw [Int.pow_succ, Int.pow_succ, Int.pow_zero, Int.one_mul]
/-- one turn of the power by bits -/
theorem pow_turn {f h g : Int} {t : Nat} : (if (t : Int) % 2 = 1 then f * h % g else f) * (h * h % g) ^ (t / 2) % g = f * h ^ t % g := by
  rw [Int.mul_emod, powm, ← Int.mul_emod]
  by_cases e : (t : Int) % 2 = 1
  · rw [if_pos e, mulml, ← pow_two_mul, Int.mul_assoc, ← Int.pow_succ']
    have : 2 * (t / 2) + 1 = t := by omega
    rw [this]
  · rw [if_neg e, ← pow_two_mul]
    have : 2 * (t / 2) = t := by omega
    rw [this]
theorem nat_lt_of {a : Int} {k : Nat} (h0 : 0 ≤ a) (h : a < 2 ^ k) : a.natAbs < 2 ^ k := by
  have : (a.natAbs : Int) = a := by omega
  have e : ((2 ^ k : Nat) : Int) = (2 : Int) ^ k := by rw [Int.natCast_pow]; rfl
  omega
theorem emod_abs {a g : Int} {k : Nat} (hg : 0 < g) (h : g.natAbs < 2 ^ k) : (a % g).natAbs < 2 ^ k := by
  have := Int.emod_nonneg a (by omega : g ≠ 0)
  have := Int.emod_lt_of_pos a hg
  omega
/-- a number is an odd one times a power of two, in one way -/
theorem two_part : ∀ {p q : Nat} {a b : Int}, a % 2 = 1 → b % 2 = 1 → a * 2 ^ p = b * 2 ^ q → p = q ∧ a = b
  | 0, 0, a, b, _, _, e => ⟨rfl, by simpa using e⟩
  | 0, q + 1, a, b, ha, _, e => by
    exfalso
    rw [Int.pow_zero, Int.mul_one, Int.pow_succ, ← Int.mul_assoc] at e
    omega
  | p + 1, 0, a, b, _, hb, e => by
    exfalso
    rw [Int.pow_zero, Int.mul_one, Int.pow_succ, ← Int.mul_assoc] at e
    omega
  | p + 1, q + 1, a, b, ha, hb, e => by
    rw [Int.pow_succ, Int.pow_succ, ← Int.mul_assoc, ← Int.mul_assoc] at e
    obtain ⟨h1, h2⟩ := two_part ha hb (by omega : a * 2 ^ p = b * 2 ^ q)
    exact ⟨by rw [h1], h2⟩
theorem pow2_mono {a b : Nat} (h : a ≤ b) : (2 : Int) ^ a ≤ 2 ^ b := by
  have := Nat.pow_le_pow_right (n := 2) (by decide) h
  have e : ∀ k, ((2 ^ k : Nat) : Int) = (2 : Int) ^ k := fun k => by rw [Int.natCast_pow]; rfl
  rw [← e, ← e]; omega
theorem pow2_pos (a : Nat) : (0 : Int) < 2 ^ a := by
  have := pow2_mono (Nat.zero_le a); simp at this; omega
end DL

end

section
set_option autoImplicit false
set_option autoImplicit false
namespace DL
open PySem PySem.Spec PyProof.Rows L2
/-! ### walks by ints, comprehensions, first finds -/
def rngI (i c : Int) (n : Nat) : List Int := (List.range n).map fun k : Nat => i + (k : Int) * c
theorem rngC_eq {i c : Int} {n : Nat} : rngC i c n = (rngI i c n).map D.int := by
  unfold rngC rngI; rw [List.map_map]; rfl
theorem rngD_eq {i : Int} {n : Nat} : rngD i n = (rngI i 1 n).map D.int := by
  unfold rngD rngI; rw [List.map_map]
  apply List.map_congr_left
  intro x _
  simp
theorem mem_rngI {i c x : Int} {n : Nat} : x ∈ rngI i c n ↔ ∃ k : Nat, k < n ∧ x = i + (k : Int) * c := by
  unfold rngI
  simp only [List.mem_map, List.mem_range]
  exact ⟨fun ⟨k, h, e⟩ => ⟨k, h, e.symm⟩, fun ⟨k, h, e⟩ => ⟨k, h, e.symm⟩⟩
theorem rngI_length {i c : Int} {n : Nat} : (rngI i c n).length = n := by simp [rngI]
theorem rngI_asc {i c : Int} {n : Nat} (hc : 0 < c) : (rngI i c n).Pairwise (· < ·) := by
  unfold rngI
  rw [List.pairwise_map]
  refine List.Pairwise.imp ?_ (List.pairwise_lt_range (n := n))
  intro a b h
  have : (a : Int) * c < (b : Int) * c := Int.mul_lt_mul_of_pos_right (by omega) hc
  omega
/-- how many items a range has -/
def rsz (i j c : Int) : Nat := (if i < j then (j - i - 1) / c + 1 else 0).toNat
theorem rng1_ok {j : Int} (h0 : -(2 ^ 62) ≤ j) (h1 : j < 2 ^ 62) : rng1? [.int j] = some ((rngI 0 1 j.toNat).map D.int) := by
  have : smallR j = true := by unfold smallR; simp; omega
  simp [rng1?, this, rngD_eq]
theorem rng2_ok {i j : Int} (g0 : -(2 ^ 62) ≤ i) (g1 : i < 2 ^ 62) (h0 : -(2 ^ 62) ≤ j) (h1 : j < 2 ^ 62) : rng2? [.int i, .int j] = some ((rngI i 1 (j - i).toNat).map D.int) := by
  have a : smallR j = true := by unfold smallR; simp; omega
  have b : smallR i = true := by unfold smallR; simp; omega
  simp [rng2?, a, b, rngD_eq]
theorem rng3_ok {i j c : Int} (c0 : 0 < c) (c1 : c < 1073741824) (g0 : -(2 ^ 62) < i) (g1 : i < 2 ^ 62) (h0 : -(2 ^ 62) < j) (h1 : j < 2 ^ 62) : rng3? [.int i, .int j, .int c] = some ((rngI i c (rsz i j c)).map D.int) := by
  have hs : Builtin.Range.rangeSize i j c = if i < j then (j - i - 1) / c + 1 else 0 := by
    unfold Builtin.Range.rangeSize; rw [if_pos (by omega)]
  have e0 : 0 ≤ (if i < j then (j - i - 1) / c + 1 else 0) := by
    split
    · have := Int.ediv_nonneg (a := j - i - 1) (b := c) (by omega) (by omega); omega
    · omega
  have e1 : (if i < j then (j - i - 1) / c + 1 else 0) < 2 ^ 63 := by
    split
    · have : (j - i - 1) / c ≤ j - i - 1 := Int.ediv_le_self _ (by omega)
      omega
    · omega
  have sm : Builtin.Range.small i j c = true := by
    have z : ∀ q : Int, -(2 ^ 63) ≤ q → q < 2 ^ 63 → Builtin.Range.rangeFitsLong q = true := fun q a b => by
      unfold Builtin.Range.rangeFitsLong; simp only [Bool.and_eq_true, decide_eq_true_eq]; exact ⟨a, b⟩
    unfold Builtin.Range.small
    rw [hs, z i (by omega) (by omega), z j (by omega) (by omega), z c (by omega) (by omega), z _ (by omega) e1]
    rw [if_pos (show c > 0 by omega), z (j + (c - 1)) (by omega) (by omega)]
    simp
  have s0 : 0 ≤ Builtin.Range.rangeSize i j c := by rw [hs]; exact e0
  have n1 : c ≠ 0 := by omega
  have n2 : c.natAbs < 1073741824 := by omega
  have r : rng3? [.int i, .int j, .int c] = some (rngC i c (Builtin.Range.rangeSize i j c).toNat) := by
    unfold rng3?
    simp only [sm, s0, n1, n2, ne_eq, not_false_eq_true, decide_true, Bool.and_self, if_true]
  rw [r, rngC_eq, hs]
  rfl
theorem lcL_int {g : Tgt} {c : Env → Store → Res Bool} {e : Env → Store → Res D} {E : Env} {S : Store} (P : Int → Bool) (fv : Int → D) : ∀ ns : List Int,
    (∀ n ∈ ns, ∃ E1, g (.int n) E = some E1 ∧ c E1 S = .ok (P n) S ∧ (P n = true → e E1 S = .ok (fv n) S)) → lcL g c e (ns.map D.int) E S = .ok ((ns.filter P).map fv) S
  | [], _ => rfl
  | n :: ns, h => by
    obtain ⟨E1, h1, h2, h3⟩ := h n (List.mem_cons_self ..)
    have ih := lcL_int P fv ns fun x hx => h x (List.mem_cons_of_mem _ hx)
    simp only [List.map_cons, lcL, h1, h2, e_bindN_ok]
    cases hp : P n with
    | true => simp only [h3 hp, e_bindN_ok, ih, List.filter_cons_of_pos hp, List.map_cons]
    | false => simp only [ih]; rw [List.filter_cons_of_neg (by simp [hp])]
theorem find_first {l : List Int} {P : Int → Bool} {d : Int} (hl : l.Pairwise (· < ·)) (hd : d ∈ l) (hp : P d = true) (hn : ∀ x ∈ l, x < d → P x = false) : l.find? P = some d := by
  induction l with
  | nil => cases hd
  | cons a l ih =>
    rw [List.pairwise_cons] at hl
    rcases List.mem_cons.mp hd with rfl | hd
    · rw [List.find?_cons_of_pos hp]
    · have := hn a (List.mem_cons_self ..) (hl.1 d hd)
      rw [List.find?_cons_of_neg (by rw [this]; simp)]
      exact ih hl.2 hd fun x hx => hn x (List.mem_cons_of_mem _ hx)
theorem head_filter {l : List Int} {P : Int → Bool} : (l.filter P).head? = l.find? P := by
  rw [← List.head?_filter]
/-- none or an int -/
def optD : Option Int → D
  | none => .non
  | some i => .int i
theorem e_forL_map {t : Tgt} {b : Env → Store → SRes} {E : Env} {S : Store} {n : Int} {ns : List Int} : forL t b ((n :: ns).map D.int) E S = (match t (.int n) E with
    | none => .stk
    | some E1 => match b E1 S with
      | .nx E2 S2 => forL t b (ns.map D.int) E2 S2
      | .ct E2 S2 => forL t b (ns.map D.int) E2 S2
      | .bk E2 S2 => .nx E2 S2
      | r => r) := rfl
/-- the last of a list -/
theorem ix_last {l : List D} {d : D} : gIx (.lst (l ++ [d])) (.int (-1)) = some d := by
  show atI (l ++ [d]) (-1) = some d
  have h1 : ixN (l ++ [d]).length (-1) = some l.length := by
    unfold ixN
    rw [if_neg (by omega), List.length_append, List.length_singleton, if_pos (by omega)]
    congr 1; omega
  unfold atI
  rw [h1]
  simp
theorem mem_rsz {b j s x : Int} (hs : 0 < s) : x ∈ rngI b s (rsz b j s) ↔ ∃ k : Nat, x = b + (k : Int) * s ∧ x < j := by
  rw [mem_rngI]
  have key : ∀ k : Nat, k < rsz b j s ↔ b + (k : Int) * s < j := fun k => by
    unfold rsz
    have h1 : (k : Int) ≤ (j - b - 1) / s ↔ (k : Int) * s ≤ j - b - 1 := Int.le_ediv_iff_mul_le hs
    have k0 : 0 ≤ (k : Int) * s := Int.mul_nonneg (by omega) (by omega)
    split
    · rename_i c
      have h2 := Int.ediv_nonneg (a := j - b - 1) (b := s) (by omega) (by omega)
      constructor
      · intro h
        have := h1.mp (by omega)
        omega
      · intro h
        have := h1.mpr (by omega)
        omega
    · rename_i c
      constructor
      · intro h; simp at h
      · intro h; omega
  constructor
  · rintro ⟨k, h, e⟩
    exact ⟨k, e, by rw [e]; exact (key k).mp h⟩
  · rintro ⟨k, e, h⟩
    exact ⟨k, (key k).mpr (by rw [← e]; exact h), e⟩
@[simp] theorem o_neb {x y : Bool} : gNe (.bl x) (.bl y) = some (.bl (!decide (x = y))) := nrf rfl
theorem in_ints {i : Int} {ns : List Int} : gIn (.int i) (.tup (ns.map D.int)) = some (.bl (ns.any fun n => n == i)) := by
  have h : (ns.map D.int).all flatD = true := by simp [List.all_map, flatD]
  simp [gIn, gInB, inF, flatD, List.any_map, Function.comp_def, eqF, List.all_map]
/-! ### more pieces -/
section
variable {n : Nat} {E : Env} {S : Store} {f : FE} {g : FM}
@[simp] theorem e_fmNil : fmNil n E S = .ok [] S := nrf rfl
@[simp] theorem e_fmFz : fmFz f g n E S = (f n E S).bind fun d S1 => (g n E S1).bind fun ds S2 => .ok (.fz d :: ds) S2 := nrf rfl
@[simp] theorem e_fmOwn : fmOwn f g n E S = (f n E S).bind fun d S1 => (g n E S1).bind fun ds S2 => .ok (.own d :: ds) S2 := nrf rfl
@[simp] theorem e_Pm2 {i j : Nat} : fPm2 i j g n E S = (match g n E S with
  | .ok [a, b] S1 => .nx ((E.set i (some a)).set j (some b)) S1
  | .ok _ _ => .stk
  | .exc x S1 => .ex x E S1
  | .stk => .stk) := nrf rfl
@[simp] theorem e_Pm3 {i j k : Nat} : fPm3 i j k g n E S = (match g n E S with
  | .ok [a, b, c] S1 => .nx (((E.set i (some a)).set j (some b)).set k (some c)) S1
  | .ok _ _ => .stk
  | .exc x S1 => .ex x E S1
  | .stk => .stk) := nrf rfl
end
/-! ### fast powers -/
def pmod (g : Int) : Nat → Int → Int → Nat → Int
  | 0, _, _, _ => -1
  | k + 1, d, e, t => if t = 0 then d % g else pmod g k (if (t : Int) % 2 = 1 then d * e % g else d) (e * e % g) (t / 2)
theorem pmod_eq {g : Int} : ∀ (k : Nat) (d e : Int) (t : Nat), t < 2 ^ k → pmod g (k + 1) d e t = d * e ^ t % g
  | 0, d, e, t, h => by
    have : t = 0 := by simp at h; exact h
    subst this; simp [pmod]
  | k + 1, d, e, t, h => by
    by_cases h0 : t = 0
    · subst h0; simp [pmod]
    · rw [pmod, if_neg h0, pmod_eq k _ _ _ (by rw [Nat.pow_succ] at h; omega), pow_turn]
theorem sq_not {a F : Int} (h1 : a * a < F) (h2 : F < (a + 1) * (a + 1)) (ha : 0 ≤ a) (x : Int) (hx : 0 ≤ x) : x * x ≠ F := fun e => by
  rcases Int.lt_or_le a x with h | h
  · have : (a + 1) * (a + 1) ≤ x * x := Int.mul_le_mul (by omega) (by omega) (by omega) hx
    omega
  · have : x * x ≤ a * a := Int.mul_le_mul h h hx ha
    omega
/-! ### first divisors -/
def fd (n : Int) : Nat → Int → Option Int
  | 0, _ => none
  | k + 1, d => if n % d = 0 then some d else fd n k (d + 1)
theorem fd_none {n : Int} : ∀ {k : Nat} {d : Int}, fd n k d = none → ∀ x, d ≤ x → x < d + k → n % x ≠ 0
  | 0, d, h, x, h1, h2 => by omega
  | k + 1, d, h, x, h1, h2 => by
    unfold fd at h
    by_cases c : n % d = 0
    · rw [if_pos c] at h; cases h
    · rw [if_neg c] at h
      by_cases e : x = d
      · rw [e]; exact c
      · exact fd_none h x (by omega) (by omega)
theorem fd_some {n : Int} : ∀ {k : Nat} {d e : Int}, fd n k d = some e → d ≤ e ∧ e < d + k ∧ n % e = 0 ∧ ∀ x, d ≤ x → x < e → n % x ≠ 0
  | 0, d, e, h => by cases h
  | k + 1, d, e, h => by
    unfold fd at h
    by_cases c : n % d = 0
    · rw [if_pos c] at h; cases h
      exact ⟨by omega, by omega, c, fun x h1 h2 => by omega⟩
    · rw [if_neg c] at h
      obtain ⟨h1, h2, h3, h4⟩ := fd_some h
      refine ⟨by omega, by omega, h3, fun x g1 g2 => ?_⟩
      by_cases e : x = d
      · rw [e]; exact c
      · exact h4 x (by omega) g2
def mn (a b : Int) : Int := if b < a then b else a
/-- the first divisor in a row of steps -/
def ldb (n b s m : Int) : Option Int := (rngI b s (rsz b (mn m (n - 1) + 1) s)).find? fun d => n % d == 0
theorem ldb_eq {n b s m d0 : Int} (hb : 2 ≤ b) (hs : 0 < s) (h1 : d0 < n) (h2 : n % d0 = 0) (h3 : ∀ x, 2 ≤ x → x < d0 → n % x ≠ 0) (h4 : ∃ k : Nat, d0 = b + (k : Int) * s) : ldb n b s m = if d0 ≤ m then some d0 else none := by
  unfold ldb
  by_cases c : d0 ≤ m
  · rw [if_pos c]
    refine find_first (rngI_asc hs) ((mem_rsz hs).mpr ?_) (by simp [h2]) fun x hx hl => ?_
    · obtain ⟨k, e⟩ := h4
      exact ⟨k, e, by unfold mn; split <;> omega⟩
    · obtain ⟨k, e, _⟩ := (mem_rsz hs).mp hx
      have : 0 ≤ (k : Int) * s := Int.mul_nonneg (by omega) (by omega)
      have := h3 x (by omega) hl
      simp [this]
  · rw [if_neg c, List.find?_eq_none]
    intro x hx
    obtain ⟨k, e, h⟩ := (mem_rsz hs).mp hx
    have : 0 ≤ (k : Int) * s := Int.mul_nonneg (by omega) (by omega)
    have := h3 x (by omega) (by unfold mn at h; split at h <;> omega)
    simp [this]
theorem ldb_none {n b s m : Int} (hb : 2 ≤ b) (hs : 0 < s) (h3 : ∀ x, 2 ≤ x → x ≤ m → x < n → n % x ≠ 0) : ldb n b s m = none := by
  unfold ldb
  rw [List.find?_eq_none]
  intro x hx
  obtain ⟨k, e, h⟩ := (mem_rsz hs).mp hx
  have : 0 ≤ (k : Int) * s := Int.mul_nonneg (by omega) (by omega)
  have := h3 x (by omega) (by unfold mn at h; split at h <;> omega) (by unfold mn at h; split at h <;> omega)
  simp [this]
/-- the same divisor is found among all and in the row of steps -/
def okDiv (n s : Int) : Bool := match fd n 2999 2 with
  | none => true
  | some e => e == n || e % s == 1
theorem ldb_same {n s m : Int} (h : okDiv n s = true) (hs : 1 < s) (hm : m ≤ 3000) (hn : 2 ≤ n) : ldb n (s + 1) s m = ldb n 2 1 m ∧ ∀ e, ldb n 2 1 m = some e → fd n 2999 2 = some e ∧ e ≠ n := by
  unfold okDiv at h
  split at h
  · rename_i e
    have := fd_none e
    rw [ldb_none (by omega) (by omega) fun x a b c => this x a (by omega), ldb_none (by omega) (by omega) fun x a b c => this x a (by omega)]
    exact ⟨rfl, fun e h => by cases h⟩
  · rename_i e he
    obtain ⟨g1, g2, g3, g4⟩ := fd_some he
    by_cases c : e = n
    · subst c
      rw [ldb_none (by omega) (by omega) fun x a b d => g4 x a d, ldb_none (by omega) (by omega) fun x a b d => g4 x a d]
      exact ⟨rfl, fun e h => by cases h⟩
    · have hle : e ≤ n := Int.le_of_dvd (by omega) (Int.dvd_of_emod_eq_zero g3)
      simp [c] at h
      have q0 : 0 < e / s := by
        rcases Int.lt_or_le 0 (e / s) with z | z
        · exact z
        · exfalso
          have := Int.mul_ediv_add_emod e s
          have : s * (e / s) ≤ 0 := Int.mul_nonpos_of_nonneg_of_nonpos (by omega) z
          omega
      have k1 : ∃ k : Nat, e = s + 1 + (k : Int) * s := ⟨(e / s - 1).toNat, by
        have e1 : (((e / s - 1).toNat : Nat) : Int) = e / s - 1 := by omega
        rw [e1, Int.sub_mul, Int.one_mul]
        have := Int.mul_ediv_add_emod e s
        rw [Int.mul_comm] at this
        omega⟩
      have k2 : ∃ k : Nat, e = 2 + (k : Int) * 1 := ⟨(e - 2).toNat, by omega⟩
      rw [ldb_eq (by omega) (by omega) (by omega) g3 g4 k1, ldb_eq (by omega) (by omega) (by omega) g3 g4 k2]
      refine ⟨rfl, fun x h => ?_⟩
      split at h
      · cases h; exact ⟨he, c⟩
      · cases h
/-! ### lists of ints, compared -/
theorem pys_ints : ∀ ns : List Int, D.pys (ns.map D.int) = some (ns.map PyData.int)
  | [] => rfl
  | a :: l => by simp only [List.map_cons, D.pys, pys_ints l, D.py]
theorem lay_ints : ∀ ns : List Int, PyData.canLayAll0 (ns.map PyData.int) = true
  | [] => rfl
  | a :: l => by simp only [List.map_cons, PyData.canLayAll0, PyData.canLay0, lay_ints l, Bool.and_self]
theorem deep_ints : ∀ ns : List Int, PyData.depthAll (ns.map PyData.int) = 0
  | [] => rfl
  | a :: l => by simp only [List.map_cons, PyData.depthAll, PyData.depth, deep_ints l]; rfl
theorem eqv_ints : ∀ ns ms : List Int, PyData.eqvAll (ns.map PyData.int) (ms.map PyData.int) = decide (ns = ms)
  | [], [] => rfl
  | [], b :: m => rfl
  | a :: l, [] => rfl
  | a :: l, b :: m => by
    simp only [List.map_cons, PyData.eqvAll, PyData.eqv, eqv_ints l m]
    by_cases h : a = b <;> by_cases h2 : l = m <;> simp [h, h2]
theorem shaped_lst (ns : List Int) : SeqAt.shaped (.list (ns.map PyData.int)) = true := by
  unfold SeqAt.shaped
  simp only [PyData.canLay0, lay_ints, PyData.depth, deep_ints]
  decide
theorem shaped_tup (ns : List Int) : SeqAt.shaped (.tuple (ns.map PyData.int)) = true := by
  unfold SeqAt.shaped
  simp only [PyData.canLay0, lay_ints, PyData.depth, deep_ints]
  decide
theorem eqD_lst {ns ms : List Int} : eqD (.lst (ns.map D.int)) (.lst (ms.map D.int)) = some (decide (ns = ms)) := by
  simp only [eqD, scalD, deepD, D.py, pys_ints, Option.map_some, shaped_lst, Bool.and_self, if_true, PyData.eqv, eqv_ints]
theorem eqD_tup {ns ms : List Int} : eqD (.tup (ns.map D.int)) (.tup (ms.map D.int)) = some (decide (ns = ms)) := by
  simp only [eqD, scalD, deepD, D.py, pys_ints, Option.map_some, shaped_tup, Bool.and_self, if_true, PyData.eqv, eqv_ints]
theorem ne_nil {ns : List Int} : gNe (.lst (ns.map D.int)) (.lst []) = some (.bl (!decide (ns = []))) := by
  have := eqD_lst (ns := ns) (ms := [])
  simp only [List.map_nil] at this
  simp only [gNe, this, Option.map_some]
theorem ix_head {a : Int} {ns : List Int} : gIx (.lst ((a :: ns).map D.int)) (.int 0) = some (.int a) := by
  show atI (.int a :: ns.map D.int) 0 = some (.int a)
  have h1 : ixN (D.int a :: ns.map D.int).length 0 = some 0 := by
    unfold ixN
    rw [if_pos (by omega), if_pos (by rw [List.length_cons]; omega)]
    rfl
  unfold atI
  rw [h1]
  rfl
theorem seq_nx {s1 s2 : FS} {n : Nat} {E E' : Env} {S S' : Store} (h : s1 n E S = .nx E' S') : fSeq s1 s2 n E S = s2 n E' S' := by
  unfold fSeq; rw [h]
end DL

end

section
set_option autoImplicit true
namespace LW
open PySem PySem.Spec PyProof.Rows L2 DL
-- functions
def N_is_integer : List Str := ["value"]
def f_is_integer : FS := (fRet (fAnd (fCB gIsi (fCons (fRd 0) (fCons (fC (.ty "int")) fNil))) (fNot (fCB gIsi (fCons (fRd 0) (fCons (fC (.ty "bool")) fNil))))))
def m_is_integer : MF := fun ds S => bodyR (f_is_integer fuel (startE N_is_integer ds) S)
def N_is_whole : List Str := ["value", "low", "high"]
def f_is_whole : FS := (fRet (fAnd (fCall m_is_integer (fCons (fVar 0) fNil)) (fChain gLe gLe (fRd 1) (fRd 0) (fRd 2))))
def m_is_whole : MF := fun ds S => bodyR (f_is_whole fuel (startE N_is_whole ds) S)
def N_need_whole : List Str := ["value", "low", "high"]
def f_need_whole : FS := (fIfS (fNotT (fBool (fCall m_is_whole (fCons (fVar 0) (fCons (fVar 1) (fCons (fVar 2) fNil)))))) (fRaise "InvalidNumber") fSkip)
def m_need_whole : MF := fun ds S => bodyR (f_need_whole fuel (startE N_need_whole ds) S)
def N_need_number : List Str := ["value"]
def f_need_number : FS := (fExp (fCall m_need_whole (fCons (fVar 0) (fCons (fC (.int 1)) (fCons (fC (.int 10000000000)) fNil)))))
def m_need_number : MF := fun ds S => bodyR (f_need_number fuel (startE N_need_number ds) S)
def N_least_factor : List Str := ["number", "prime", "part"]
def f_least_factor : FS := (fSeq (fFor (fIt (fTup (fCons (fC (.int 2)) (fCons (fC (.int 3)) fNil)))) (gN 1) (fIfS (fBool (fOp gEq (fOp gMod (fRd 0) (fRd 1)) (fC (.int 0)))) (fRet (fVar 1)) fSkip)) (fSeq (fSet 2 (fC (.int 5))) (fSeq (fWhile (fBool (fOp gLe (fOp gMul (fRd 2) (fRd 2)) (fRd 0))) (fSeq (fIfS (fBool (fOp gEq (fOp gMod (fRd 0) (fRd 2)) (fC (.int 0)))) (fRet (fVar 2)) fSkip) (fSeq (fIfS (fBool (fOp gEq (fOp gMod (fRd 0) (fOp gAdd (fRd 2) (fC (.int 2)))) (fC (.int 0)))) (fRet (fOp gAdd (fRd 2) (fC (.int 2)))) fSkip) (fSet 2 (fOp gAdd (fRd 2) (fC (.int 6))))))) (fRet (fVar 0)))))
def m_least_factor : MF := fun ds S => bodyR (f_least_factor fuel (startE N_least_factor ds) S)
def N_is_prime_in : List Str := ["number"]
def f_is_prime_in : FS := (fRet (fAnd (fOp gGt (fRd 0) (fC (.int 1))) (fOp gEq (fCall m_least_factor (fCons (fVar 0) fNil)) (fRd 0))))
def m_is_prime_in : MF := fun ds S => bodyR (f_is_prime_in fuel (startE N_is_prime_in ds) S)
def N_power_in : List Str := ["one", "times", "great", "found", "here", "left"]
def f_power_in : FS := (fSeq (fPar3 3 4 5 (fCons (fC (.int 1)) (fCons (fOp gMod (fRd 0) (fRd 2)) (fCons (fVar 1) fNil)))) (fSeq (fWhile (fBool (fOp gGt (fRd 5) (fC (.int 0)))) (fSeq (fIfS (fBool (fOp gEq (fOp gMod (fRd 5) (fC (.int 2))) (fC (.int 1)))) (fSet 3 (fOp gMod (fOp gMul (fRd 3) (fRd 4)) (fRd 2))) fSkip) (fPar2 4 5 (fCons (fOp gMod (fOp gMul (fRd 4) (fRd 4)) (fRd 2)) (fCons (fOp gDiv (fRd 5) (fC (.int 2))) fNil))))) (fRet (fOp gMod (fRd 3) (fRd 2)))))
def m_power_in : MF := fun ds S => bodyR (f_power_in fuel (startE N_power_in ds) S)
def N_is_prime : List Str := ["number"]
def f_is_prime : FS := (fSeq (fExp (fCall m_need_number (fCons (fVar 0) fNil))) (fRet (fCall m_is_prime_in (fCons (fVar 0) fNil))))
def m_is_prime : MF := fun ds S => bodyR (f_is_prime fuel (startE N_is_prime ds) S)
def N_sign_in : List Str := ["one", "odd", "sign", "top", "below"]
def f_sign_in : FS := (fSeq (fPar3 2 3 4 (fCons (fC (.int 1)) (fCons (fOp gMod (fRd 0) (fRd 1)) (fCons (fVar 1) fNil)))) (fSeq (fWhile (fBool (fOp gNe (fRd 3) (fC (.int 0)))) (fSeq (fWhile (fBool (fOp gEq (fOp gMod (fRd 3) (fC (.int 2))) (fC (.int 0)))) (fSeq (fSet 3 (fOp gDiv (fRd 3) (fC (.int 2)))) (fSet 2 (fIf (fBool (fOp gIn (fOp gMod (fRd 4) (fC (.int 8))) (fTup (fCons (fC (.int 3)) (fCons (fC (.int 5)) fNil))))) (fUn gNeg (fVar 2)) (fVar 2))))) (fSeq (fSet 2 (fIf (fAndT (fBool (fOp gEq (fOp gMod (fRd 3) (fC (.int 4))) (fC (.int 3)))) (fBool (fOp gEq (fOp gMod (fRd 4) (fC (.int 4))) (fC (.int 3))))) (fUn gNeg (fVar 2)) (fVar 2))) (fPar2 3 4 (fCons (fOp gMod (fRd 4) (fRd 3)) (fCons (fVar 3) fNil)))))) (fRet (fIf (fBool (fOp gEq (fRd 4) (fC (.int 1)))) (fVar 2) (fC (.int 0))))))
def m_sign_in : MF := fun ds S => bodyR (f_sign_in fuel (startE N_sign_in ds) S)
def N_above_in : List Str := ["front", "power", "found", "turn"]
def f_above_in : FS := (fSeq (fSet 2 (fVar 0)) (fSeq (fFor (fLift rng1? (fCons (fVar 1) fNil)) (gN 3) (fSet 2 (fOp gMul (fC (.int 2)) (fRd 2)))) (fRet (fOp gAdd (fRd 2) (fC (.int 1))))))
def m_above_in : MF := fun ds S => bodyR (f_above_in fuel (startE N_above_in ds) S)
def N_fits_two_shape : List Str := ["front", "power"]
def f_fits_two_shape : FS := (fSeq (fIfS (fOrT (fNotT (fBool (fCall m_is_whole (fCons (fVar 0) (fCons (fC (.int 1)) (fCons (fC (.int 10000000000000000000000000000000000000000)) fNil)))))) (fOrT (fBool (fOp gEq (fOp gMod (fRd 0) (fC (.int 2))) (fC (.int 0)))) (fNotT (fBool (fCall m_is_whole (fCons (fVar 1) (fCons (fC (.int 1)) (fCons (fC (.int 132)) fNil)))))))) (fRet (fC (.bl false))) fSkip) (fRet (fAnd (fOp gGt (fOp gSub (fCall m_above_in (fCons (fC (.int 1)) (fCons (fVar 1) fNil))) (fC (.int 1))) (fRd 0)) (fOp gLe (fCall m_above_in (fCons (fVar 0) (fCons (fVar 1) fNil))) (fC (.int 10000000000000000000000000000000000000000))))))
def m_fits_two_shape : MF := fun ds S => bodyR (f_fits_two_shape fuel (startE N_fits_two_shape ds) S)
def N_need_two_shape : List Str := ["front", "power"]
def f_need_two_shape : FS := (fIfS (fNotT (fBool (fCall m_fits_two_shape (fCons (fVar 0) (fCons (fVar 1) fNil))))) (fRaise "InvalidShape") fSkip)
def m_need_two_shape : MF := fun ds S => bodyR (f_need_two_shape fuel (startE N_need_two_shape ds) S)
def N_half_in : List Str := ["base", "great"]
def f_half_in : FS := (fRet (fCall m_power_in (fCons (fVar 0) (fCons (fOp gDiv (fRd 1) (fC (.int 2))) (fCons (fVar 1) fNil)))))
def m_half_in : MF := fun ds S => bodyR (f_half_in fuel (startE N_half_in ds) S)
def N_is_square_number : List Str := ["number", "low", "high", "middle"]
def f_is_square_number : FS := (fSeq (fPar2 1 2 (fCons (fC (.int 1)) (fCons (fOp gAdd (fRd 0) (fC (.int 1))) fNil))) (fSeq (fWhile (fBool (fOp gGt (fOp gSub (fRd 2) (fRd 1)) (fC (.int 1)))) (fSeq (fSet 3 (fOp gDiv (fOp gAdd (fRd 1) (fRd 2)) (fC (.int 2)))) (fIfS (fBool (fOp gLe (fOp gMul (fRd 3) (fRd 3)) (fRd 0))) (fSet 1 (fVar 3)) (fSet 2 (fVar 3))))) (fRet (fOp gEq (fOp gMul (fRd 1) (fRd 1)) (fRd 0)))))
def m_is_square_number : MF := fun ds S => bodyR (f_is_square_number fuel (startE N_is_square_number ds) S)
def N_paper_base : List Str := ["great", "base"]
def f_paper_base : FS := (fSeq (fSet 1 (fC (.int 2))) (fSeq (fWhile (fBool (fOp gEq (fCall m_sign_in (fCons (fVar 1) (fCons (fVar 0) fNil))) (fC (.int 1)))) (fSet 1 (fOp gAdd (fRd 1) (fC (.int 1))))) (fRet (fVar 1))))
def m_paper_base : MF := fun ds S => bodyR (f_paper_base fuel (startE N_paper_base ds) S)
def N_is_prime_above : List Str := ["great"]
def f_is_prime_above : FS := (fSeq (fIfS (fBool (fOp gEq (fRd 0) (fC (.int 3)))) (fRet (fC (.bl true))) fSkip) (fRet (fAnd (fNot (fCall m_is_square_number (fCons (fVar 0) fNil))) (fOp gEq (fCall m_half_in (fCons (fCall m_paper_base (fCons (fVar 0) fNil)) (fCons (fVar 0) fNil))) (fOp gSub (fRd 0) (fC (.int 1)))))))
def m_is_prime_above : MF := fun ds S => bodyR (f_is_prime_above fuel (startE N_is_prime_above ds) S)
def N_is_false_in : List Str := ["base", "great", "rest", "sign"]
def f_is_false_in : FS := (fSeq (fPar2 2 3 (fCons (fCall m_half_in (fCons (fVar 0) (fCons (fVar 1) fNil))) (fCons (fCall m_sign_in (fCons (fVar 0) (fCons (fVar 1) fNil))) fNil))) (fSeq (fIfS (fBool (fOp gEq (fRd 2) (fC (.int 1)))) (fRet (fOp gNe (fRd 3) (fC (.int 1)))) fSkip) (fRet (fOr (fOp gNe (fRd 2) (fOp gSub (fRd 1) (fC (.int 1)))) (fOp gNe (fRd 3) (fUn gNeg (fC (.int 1))))))))
def m_is_false_in : MF := fun ds S => bodyR (f_is_false_in fuel (startE N_is_false_in ds) S)
def N_is_base_to : List Str := ["value", "great"]
def f_is_base_to : FS := (fRet (fAnd (fCall m_is_integer (fCons (fVar 0) fNil)) (fChain gLe gLt (fC (.int 2)) (fRd 0) (fRd 1))))
def m_is_base_to : MF := fun ds S => bodyR (f_is_base_to fuel (startE N_is_base_to ds) S)
def N_number_above : List Str := ["front", "power"]
def f_number_above : FS := (fSeq (fExp (fCall m_need_two_shape (fCons (fVar 0) (fCons (fVar 1) fNil)))) (fRet (fCall m_above_in (fCons (fVar 0) (fCons (fVar 1) fNil)))))
def m_number_above : MF := fun ds S => bodyR (f_number_above fuel (startE N_number_above ds) S)
def N_is_shape_prime : List Str := ["front", "power"]
def f_is_shape_prime : FS := (fSeq (fExp (fCall m_need_two_shape (fCons (fVar 0) (fCons (fVar 1) fNil)))) (fRet (fCall m_is_prime_above (fCons (fCall m_above_in (fCons (fVar 0) (fCons (fVar 1) fNil))) fNil))))
def m_is_shape_prime : MF := fun ds S => bodyR (f_is_shape_prime fuel (startE N_is_shape_prime ds) S)
def N_proth_paper : List Str := ["front", "power", "great"]
def f_proth_paper : FS := (fSeq (fExp (fCall m_need_two_shape (fCons (fVar 0) (fCons (fVar 1) fNil)))) (fSeq (fSet 2 (fCall m_above_in (fCons (fVar 0) (fCons (fVar 1) fNil)))) (fSeq (fIfS (fBool (fOp gEq (fRd 2) (fC (.int 3)))) (fRet (fC (.int 2))) fSkip) (fRet (fIf (fBool (fCall m_is_prime_above (fCons (fVar 2) fNil))) (fCall m_paper_base (fCons (fVar 2) fNil)) (fC .non))))))
def m_proth_paper : MF := fun ds S => bodyR (f_proth_paper fuel (startE N_proth_paper ds) S)
def N_is_proth_paper : List Str := ["front", "power", "value", "great"]
def f_is_proth_paper : FS := (fSeq (fExp (fCall m_need_two_shape (fCons (fVar 0) (fCons (fVar 1) fNil)))) (fSeq (fSet 3 (fCall m_above_in (fCons (fVar 0) (fCons (fVar 1) fNil)))) (fRet (fAnd (fCall m_is_base_to (fCons (fVar 2) (fCons (fVar 3) fNil))) (fOp gEq (fCall m_half_in (fCons (fVar 2) (fCons (fVar 3) fNil))) (fOp gSub (fRd 3) (fC (.int 1))))))))
def m_is_proth_paper : MF := fun ds S => bodyR (f_is_proth_paper fuel (startE N_is_proth_paper ds) S)
def N_false_paper : List Str := ["front", "power", "great", "base"]
def f_false_paper : FS := (fSeq (fExp (fCall m_need_two_shape (fCons (fVar 0) (fCons (fVar 1) fNil)))) (fSeq (fPar2 2 3 (fCons (fCall m_above_in (fCons (fVar 0) (fCons (fVar 1) fNil))) (fCons (fC (.int 2)) fNil))) (fSeq (fIfS (fBool (fCall m_is_prime_above (fCons (fVar 2) fNil))) (fRet (fC .non)) fSkip) (fSeq (fWhile (fNotT (fBool (fCall m_is_false_in (fCons (fVar 3) (fCons (fVar 2) fNil))))) (fSet 3 (fOp gAdd (fRd 3) (fC (.int 1))))) (fRet (fVar 3))))))
def m_false_paper : MF := fun ds S => bodyR (f_false_paper fuel (startE N_false_paper ds) S)
def N__law_cup : List Str := ["script", "cell"]
def f__law_cup : FS := (fSeq (fSet 1 (fCB gAbs (fCons (fOp gIx (fOp gAdd (fCB gList (fCons (fRd 0) fNil)) (fLst (fCons (fC (.int 0)) fNil))) (fC (.int 0))) fNil))) (fRetH (fLst (fCons (fIf (fBool (fOp gGe (fRd 1) (fOp gPow (fC (.int 10)) (fC (.int 18))))) (fOp gDiv (fRd 1) (fC (.int 73))) (fC (.int 0))) (fCons (fOp gAdd (fOp gMod (fCB gInt (fCons (fOp gAdd (fOp gMul (fRd 1) (fC (.int 283))) (fC (.int 3907))) fNil)) (fC (.int 2077503167))) (fC (.int 167))) fNil)))))
def m__law_cup : MF := fun ds S => bodyR (f__law_cup fuel (startE N__law_cup ds) S)
def N__law_roll : List Str := ["cup", "many", "found", "deep"]
def f__law_roll : FS := (fSeq (fIfS (fBool (fOp gGt (fIxH 0 0) (fC (.int 0)))) (fSeq (fSet 2 (fOp gMod (fCB gInt (fCons (fIxH 0 0) fNil)) (fRd 1))) (fSeq (fSetIxH 0 0 (fOp gDiv (fIxH 0 0) (fRd 1))) (fRet (fVar 2)))) fSkip) (fSeq (fSetIxH 0 1 (fOp gMod (fCB gInt (fCons (fOp gAdd (fOp gMul (fIxH 0 1) (fC (.int 31051))) (fC (.int 7993))) fNil)) (fC (.int 2147483543)))) (fSeq (fSet 3 (fOp gMod (fCB gInt (fCons (fOp gMul (fIxH 0 1) (fOp gAdd (fIxH 0 1) (fC (.int 229)))) fNil)) (fC (.int 2147483587)))) (fRet (fOp gMod (fCB gInt (fCons (fOp gDiv (fRd 3) (fC (.int 821))) fNil)) (fRd 1))))))
def m__law_roll : MF := fun ds S => bodyR (f__law_roll fuel (startE N__law_roll ds) S)
def N__law_some : List Str := ["cup", "things"]
def f__law_some : FS := (fRet (fOp gIx (fRd 1) (fCall m__law_roll (fCons (fVar 0) (fCons (fCB gLen (fCons (fRd 1) fNil)) fNil)))))
def m__law_some : MF := fun ds S => bodyR (f__law_some fuel (startE N__law_some ds) S)
def N__law_sort : List Str := ["value"]
def f__law_sort : FS := (fSeq (fIfS (fOrT (fBool (fOp gIs (fRd 0) (fC .non))) (fBool (fCB gIsi (fCons (fRd 0) (fCons (fC (.ty "bool")) fNil))))) (fRet (fIf (fBool (fOp gIs (fRd 0) (fC .non))) (fC (.int 0)) (fC (.int 1)))) fSkip) (fSeq (fIfS (fOrT (fBool (fCB gIsi (fCons (fRd 0) (fCons (fC (.ty "int")) fNil)))) (fBool (fCB gIsi (fCons (fRd 0) (fCons (fC (.ty "str")) fNil))))) (fRet (fIf (fBool (fCB gIsi (fCons (fRd 0) (fCons (fC (.ty "int")) fNil)))) (fC (.int 2)) (fC (.int 3)))) fSkip) (fRet (fIf (fBool (fCB gIsi (fCons (fRd 0) (fCons (fC (.ty "tuple")) fNil)))) (fC (.int 4)) (fIf (fBool (fCB gIsi (fCons (fRd 0) (fCons (fC (.ty "list")) fNil)))) (fC (.int 5)) (fC (.int 6)))))))
def m__law_sort : MF := fun ds S => bodyR (f__law_sort fuel (startE N__law_sort ds) S)
def N__law_like : List Str := ["one", "other", "sort", "first", "second"]
def f__law_like (mr : MF) : FS := (fSeq (fSet 2 (fCall m__law_sort (fCons (fVar 1) fNil))) (fSeq (fIfS (fOrT (fBool (fOp gNe (fCall m__law_sort (fCons (fVar 0) fNil)) (fRd 2))) (fBool (fOp gEq (fRd 2) (fC (.int 6))))) (fRet (fC (.bl false))) fSkip) (fSeq (fIfS (fBool (fOp gIn (fRd 2) (fTup (fCons (fC (.int 4)) (fCons (fC (.int 5)) fNil))))) (fRet (fAnd (fOp gEq (fCB gLen (fCons (fRd 0) fNil)) (fCB gLen (fCons (fRd 1) fNil))) (fOp gEq (fLc (fLift zip? (fCons (fVar 0) (fCons (fVar 1) fNil))) (gT (gConss (gN 3) (gConss (gN 4) gNils))) (fNotT (fBool (fCall mr (fCons (fVar 3) (fCons (fVar 4) fNil))))) (fC (.int 1)) [3, 4]) (fLst fNil)))) fSkip) (fRet (fOp gEq (fRd 0) (fRd 1))))))
def mk__law_like : Nat → MF
  | 0 => fun _ _ => .stk
  | k + 1 => fun ds S => bodyR (f__law_like (mk__law_like k) fuel (startE N__law_like ds) S)
def m__law_like : MF := mk__law_like 8
def N__law_is_prime : List Str := ["number", "found"]
def f__law_is_prime : FS := (fSeq (fIfS (fBool (fOp gLt (fRd 0) (fC (.int 2)))) (fRet (fC (.bl false))) fSkip) (fSeq (fSet 1 (fC (.int 2))) (fSeq (fWhile (fBool (fOp gLe (fOp gMul (fRd 1) (fRd 1)) (fRd 0))) (fSeq (fIfS (fBool (fOp gEq (fOp gMod (fCB gInt (fCons (fRd 0) fNil)) (fRd 1)) (fC (.int 0)))) (fRet (fC (.bl false))) fSkip) (fSet 1 (fOp gAdd (fRd 1) (fC (.int 1)))))) (fRet (fC (.bl true))))))
def m__law_is_prime : MF := fun ds S => bodyR (f__law_is_prime fuel (startE N__law_is_prime ds) S)
def N__law_power : List Str := ["one", "times", "number", "found", "here"]
def f__law_power : FS := (fSeq (fPar2 3 4 (fCons (fC (.int 1)) (fCons (fOp gMod (fCB gInt (fCons (fRd 0) fNil)) (fRd 2)) fNil))) (fSeq (fWhile (fBool (fOp gGt (fRd 1) (fC (.int 0)))) (fSeq (fSet 3 (fIf (fBool (fOp gEq (fOp gMod (fCB gInt (fCons (fRd 1) fNil)) (fC (.int 2))) (fC (.int 1)))) (fOp gMod (fCB gInt (fCons (fOp gMul (fRd 3) (fRd 4)) fNil)) (fRd 2)) (fVar 3))) (fPar2 4 1 (fCons (fOp gMod (fCB gInt (fCons (fOp gMul (fRd 4) (fRd 4)) fNil)) (fRd 2)) (fCons (fCB gInt (fCons (fOp gDiv (fRd 1) (fC (.int 2))) fNil)) fNil))))) (fRet (fOp gMod (fCB gInt (fCons (fRd 3) fNil)) (fRd 2)))))
def m__law_power : MF := fun ds S => bodyR (f__law_power fuel (startE N__law_power ds) S)
def N__law_above : List Str := ["front", "power", "found", "turn"]
def f__law_above : FS := (fSeq (fSet 2 (fVar 0)) (fSeq (fFor (fLift rng1? (fCons (fVar 1) fNil)) (gN 3) (fSet 2 (fOp gMul (fC (.int 2)) (fRd 2)))) (fRet (fOp gAdd (fRd 2) (fC (.int 1))))))
def m__law_above : MF := fun ds S => bodyR (f__law_above fuel (startE N__law_above ds) S)
def N__law_sign : List Str := ["one", "odd", "sign", "top", "below"]
def f__law_sign : FS := (fSeq (fPar3 2 3 4 (fCons (fC (.int 1)) (fCons (fOp gMod (fCB gInt (fCons (fRd 0) fNil)) (fRd 1)) (fCons (fVar 1) fNil)))) (fSeq (fWhile (fBool (fOp gNe (fRd 3) (fC (.int 0)))) (fSeq (fWhile (fBool (fOp gEq (fOp gMod (fCB gInt (fCons (fRd 3) fNil)) (fC (.int 2))) (fC (.int 0)))) (fPar2 3 2 (fCons (fCB gInt (fCons (fOp gDiv (fRd 3) (fC (.int 2))) fNil)) (fCons (fIf (fBool (fOp gIn (fOp gMod (fCB gInt (fCons (fRd 4) fNil)) (fC (.int 8))) (fTup (fCons (fC (.int 3)) (fCons (fC (.int 5)) fNil))))) (fOp gSub (fC (.int 0)) (fRd 2)) (fVar 2)) fNil)))) (fSeq (fSet 2 (fIf (fAndT (fBool (fOp gEq (fOp gMod (fCB gInt (fCons (fRd 3) fNil)) (fC (.int 4))) (fC (.int 3)))) (fBool (fOp gEq (fOp gMod (fCB gInt (fCons (fRd 4) fNil)) (fC (.int 4))) (fC (.int 3))))) (fOp gSub (fC (.int 0)) (fRd 2)) (fVar 2))) (fPar2 3 4 (fCons (fOp gMod (fCB gInt (fCons (fRd 4) fNil)) (fRd 3)) (fCons (fVar 3) fNil)))))) (fRet (fIf (fBool (fOp gEq (fRd 4) (fC (.int 1)))) (fVar 2) (fC (.int 0))))))
def m__law_sign : MF := fun ds S => bodyR (f__law_sign fuel (startE N__law_sign ds) S)
def N__law_half : List Str := ["base", "great"]
def f__law_half : FS := (fRet (fCall m__law_power (fCons (fOp gMod (fCB gInt (fCons (fRd 0) fNil)) (fRd 1)) (fCons (fCB gInt (fCons (fOp gDiv (fOp gSub (fRd 1) (fC (.int 1))) (fC (.int 2))) fNil)) (fCons (fVar 1) fNil)))))
def m__law_half : MF := fun ds S => bodyR (f__law_half fuel (startE N__law_half ds) S)
def N__law_is_false : List Str := ["base", "great", "rest", "sign"]
def f__law_is_false : FS := (fSeq (fPar2 2 3 (fCons (fCall m__law_half (fCons (fVar 0) (fCons (fVar 1) fNil))) (fCons (fCall m__law_sign (fCons (fVar 0) (fCons (fVar 1) fNil))) fNil))) (fRet (fOp gNinX (fTup (fCons (fVar 2) (fCons (fVar 3) fNil))) (fTup (fCons (fTup (fCons (fC (.int 1)) (fCons (fC (.int 1)) fNil))) (fCons (fTup (fCons (fOp gSub (fRd 1) (fC (.int 1))) (fCons (fUn gNeg (fC (.int 1))) fNil))) fNil))))))
def m__law_is_false : MF := fun ds S => bodyR (f__law_is_false fuel (startE N__law_is_false ds) S)
def N__law_shape : List Str := ["cup", "most", "power", "front"]
def f__law_shape : FS := (fSeq (fSet 2 (fOp gAdd (fC (.int 1)) (fCall m__law_roll (fCons (fVar 0) (fCons (fVar 1) fNil))))) (fSeq (fSet 3 (fOp gAdd (fC (.int 1)) (fOp gMul (fC (.int 2)) (fCall m__law_roll (fCons (fVar 0) (fCons (fCB gMin2 (fCons (fOp gPow (fC (.int 10)) (fC (.int 6))) (fCons (fOp gSub (fCall m__law_above (fCons (fC (.int 1)) (fCons (fVar 2) fNil))) (fC (.int 1))) fNil))) fNil)))))) (fSeq (fWhile (fBool (fOp gGe (fRd 3) (fOp gSub (fCall m__law_above (fCons (fC (.int 1)) (fCons (fVar 2) fNil))) (fC (.int 1))))) (fSet 3 (fOp gAdd (fOp gMul (fCB gInt (fCons (fOp gDiv (fRd 3) (fC (.int 4))) fNil)) (fC (.int 2))) (fC (.int 1))))) (fRet (fTup (fCons (fVar 3) (fCons (fVar 2) fNil)))))))
def m__law_shape : MF := fun ds S => bodyR (f__law_shape fuel (startE N__law_shape ds) S)
def N__law_right : List Str := ["cup", "front", "power", "is_small", "great", "told", "paper", "false", "some", "value", "good"]
def f__law_right : FS := (fSeq (fSet 4 (fCall m__law_above (fCons (fVar 1) (fCons (fVar 2) fNil)))) (fSeq (fPar2 5 6 (fCons (fCall m_is_shape_prime (fCons (fVar 1) (fCons (fVar 2) fNil))) (fCons (fCall m_proth_paper (fCons (fVar 1) (fCons (fVar 2) fNil))) fNil))) (fSeq (fIfS (fNotT (fBool (fCall m__law_like (fCons (fLst (fCons (fCall m_number_above (fCons (fVar 1) (fCons (fVar 2) fNil))) (fCons (fOp gEq (fRd 5) (fOp gIsN (fRd 6) (fC .non))) fNil))) (fCons (fLst (fCons (fVar 4) (fCons (fC (.bl true)) fNil))) fNil))))) (fRet (fC (.bl false))) fSkip) (fSeq (fIfS (fAndT (fTru (fRd 3)) (fOrT (fBool (fOp gNe (fRd 5) (fCall m__law_is_prime (fCons (fVar 4) fNil)))) (fBool (fOp gNe (fCall m_is_prime (fCons (fVar 4) fNil)) (fRd 5))))) (fRet (fC (.bl false))) fSkip) (fSeq (fIfS (fAndT (fBool (fOp gIsN (fRd 6) (fC .non))) (fOrT (fBool (fOp gNe (fCall m__law_sort (fCons (fVar 6) fNil)) (fC (.int 2)))) (fOrT (fNotT (fBool (fChain gLe gLt (fC (.int 2)) (fRd 6) (fRd 4)))) (fBool (fOp gNe (fCall m__law_half (fCons (fVar 6) (fCons (fVar 4) fNil))) (fOp gSub (fRd 4) (fC (.int 1)))))))) (fRet (fC (.bl false))) fSkip) (fSeq (fSet 7 (fCall m_false_paper (fCons (fVar 1) (fCons (fVar 2) fNil)))) (fSeq (fIfS (fOrT (fBool (fOp gNe (fOp gIs (fRd 7) (fC .non)) (fRd 5))) (fAndT (fNotT (fTru (fRd 5))) (fOrT (fBool (fOp gNe (fCall m__law_sort (fCons (fVar 7) fNil)) (fC (.int 2)))) (fOrT (fNotT (fBool (fChain gLe gLt (fC (.int 2)) (fRd 7) (fRd 4)))) (fNotT (fBool (fCall m__law_is_false (fCons (fVar 7) (fCons (fVar 4) fNil))))))))) (fRet (fC (.bl false))) fSkip) (fSeq (fSet 8 (fIf (fBool (fOp gIsN (fRd 6) (fC .non))) (fVar 6) (fC (.int 3)))) (fSeq (fFor (fIt (fTup (fCons (fVar 8) (fCons (fOp gAdd (fRd 8) (fC (.int 1))) (fCons (fOp gSub (fRd 4) (fRd 8)) (fCons (fOp gAdd (fRd 4) (fRd 8)) (fCons (fOp gSub (fRd 4) (fC (.int 1))) (fCons (fVar 4) (fCons (fC (.int 1)) (fCons (fC (.int 0)) (fCons (fUn gNeg (fC (.int 2))) (fCons (fC .non) (fCons (fC (.bl true)) (fCons (fC (.str "2")) (fCons (fTup (fCons (fVar 8) fNil)) (fCons (fOp gAdd (fC (.int 2)) (fCall m__law_roll (fCons (fVar 0) (fCons (fOp gPow (fC (.int 10)) (fC (.int 6))) fNil)))) fNil)))))))))))))))) (gN 9) (fSeq (fSet 10 (fAnd (fOp gEq (fCall m__law_sort (fCons (fVar 9) fNil)) (fC (.int 2))) (fAnd (fChain gLe gLt (fC (.int 2)) (fRd 9) (fRd 4)) (fOp gEq (fCall m__law_half (fCons (fVar 9) (fCons (fVar 4) fNil))) (fOp gSub (fRd 4) (fC (.int 1))))))) (fIfS (fNotT (fBool (fCall m__law_like (fCons (fCall m_is_proth_paper (fCons (fVar 1) (fCons (fVar 2) (fCons (fVar 9) fNil)))) (fCons (fVar 10) fNil))))) (fRet (fC (.bl false))) fSkip))) (fRet (fC (.bl true))))))))))))
def m__law_right : MF := fun ds S => bodyR (f__law_right fuel (startE N__law_right ds) S)
def N_law : List Str := ["script", "cup", "told", "known", "most", "front", "power", "great", "rests", "root", "base", "rest"]
def f_law : FS := (fSeq (fSet 1 (fCall m__law_cup (fCons (fVar 0) fNil))) (fSeq (fSet 2 (fLst (fCons (fCall m_is_shape_prime (fCons (fC (.int 3)) (fCons (fC (.int 2)) fNil))) (fCons (fCall m_is_shape_prime (fCons (fC (.int 1)) (fCons (fC (.int 3)) fNil))) (fCons (fCall m_is_proth_paper (fCons (fC (.int 3)) (fCons (fC (.int 2)) (fCons (fC (.int 2)) fNil)))) (fCons (fCall m_is_proth_paper (fCons (fC (.int 3)) (fCons (fC (.int 2)) (fCons (fC (.int 3)) fNil)))) (fCons (fCall m_proth_paper (fCons (fC (.int 1)) (fCons (fC (.int 3)) fNil))) fNil))))))) (fSeq (fSet 2 (fOp gAdd (fRd 2) (fLst (fCons (fCall m_is_proth_paper (fCons (fC (.int 1)) (fCons (fC (.int 1)) (fCons (fC (.int 2)) fNil)))) (fCons (fCall m_proth_paper (fCons (fC (.int 1)) (fCons (fC (.int 1)) fNil))) fNil))))) (fSeq (fIfS (fNotT (fBool (fCall m__law_like (fCons (fVar 2) (fCons (fLst (fCons (fC (.bl true)) (fCons (fC (.bl false)) (fCons (fC (.bl true)) (fCons (fC (.bl false)) (fCons (fC .non) (fCons (fC (.bl true)) (fCons (fC (.int 2)) fNil)))))))) fNil))))) (fRet (fC (.bl false))) fSkip) (fSeq (fSet 3 (fLst (fCons (fTup (fCons (fC (.int 3)) (fCons (fC (.int 12)) (fCons (fC (.int 12289)) fNil)))) (fCons (fTup (fCons (fC (.int 5)) (fCons (fC (.int 13)) (fCons (fC (.int 40961)) fNil)))) (fCons (fTup (fCons (fC (.int 1)) (fCons (fC (.int 16)) (fCons (fC (.int 65537)) fNil)))) (fCons (fTup (fCons (fC (.int 3)) (fCons (fC (.int 18)) (fCons (fC (.int 786433)) fNil)))) (fCons (fTup (fCons (fC (.int 7)) (fCons (fC (.int 20)) (fCons (fC (.int 7340033)) fNil)))) (fCons (fTup (fCons (fC (.int 5)) (fCons (fC (.int 25)) (fCons (fC (.int 167772161)) fNil)))) fNil)))))))) (fSeq (fFor (fIt (fTup (fCons (fC (.int 1)) (fCons (fC (.int 3)) (fCons (fC (.int 6)) (fCons (fC (.int 10)) fNil)))))) (gN 4) (fSeq (fAsg (gT (gConss (gN 5) (gConss (gN 6) gNils))) (fCall m__law_shape (fCons (fVar 1) (fCons (fVar 4) fNil)))) (fIfS (fNotT (fBool (fCall m__law_right (fCons (fVar 1) (fCons (fVar 5) (fCons (fVar 6) (fCons (fC (.bl true)) fNil))))))) (fRet (fC (.bl false))) fSkip))) (fSeq (fFor (fIt (fTup (fCons (fC (.int 30)) (fCons (fC (.int 110)) fNil)))) (gN 4) (fSeq (fAsg (gT (gConss (gN 5) (gConss (gN 6) gNils))) (fCall m__law_shape (fCons (fVar 1) (fCons (fVar 4) fNil)))) (fIfS (fNotT (fBool (fCall m__law_right (fCons (fVar 1) (fCons (fVar 5) (fCons (fVar 6) (fCons (fC (.bl false)) fNil))))))) (fRet (fC (.bl false))) fSkip))) (fSeq (fSet 6 (fOp gAdd (fC (.int 11)) (fCall m__law_roll (fCons (fVar 1) (fCons (fC (.int 50)) fNil))))) (fSeq (fFor (fLift rng3? (fCons (fC (.int 1)) (fCons (fC (.int 100)) (fCons (fC (.int 2)) fNil)))) (gN 5) (fSeq (fSet 7 (fCall m__law_above (fCons (fVar 5) (fCons (fVar 6) fNil)))) (fSeq (fSet 8 (fLc (fIt (fTup (fCons (fC (.int 3)) (fCons (fC (.int 5)) (fCons (fC (.int 7)) (fCons (fC (.int 11)) (fCons (fC (.int 13)) fNil))))))) (gN 10) fYes (fCall m__law_half (fCons (fVar 10) (fCons (fVar 7) fNil))) [10])) (fSeq (fIfS (fAndT (fBool (fOp gIn (fOp gSub (fRd 7) (fC (.int 1))) (fRd 8))) (fBool (fOp gIsNB (fCall m_is_shape_prime (fCons (fVar 5) (fCons (fVar 6) fNil))) (fC (.bl true))))) (fRet (fC (.bl false))) fSkip) (fIfS (fAndT (fBool (fOp gNin (fOp gSub (fRd 7) (fC (.int 1))) (fRd 8))) (fAndT (fBool (fOp gNe (fLc (fIt (fVar 8)) (gN 11) (fBool (fOp gNe (fRd 11) (fC (.int 1)))) (fVar 11) [11]) (fLst fNil))) (fBool (fOp gIsNB (fCall m_is_shape_prime (fCons (fVar 5) (fCons (fVar 6) fNil))) (fC (.bl false)))))) (fRet (fC (.bl false))) fSkip))))) (fSeq (fFor (fIt (fTup (fCons (fTup (fCons (fC (.int 1)) (fCons (fC (.int 3)) (fCons (fC (.int 3)) fNil)))) (fCons (fTup (fCons (fC (.int 3)) (fCons (fC (.int 3)) (fCons (fC (.int 5)) fNil)))) (fCons (fTup (fCons (fC (.int 9)) (fCons (fC (.int 5)) (fCons (fC (.int 17)) fNil)))) fNil))))) (gT (gConss (gN 5) (gConss (gN 6) (gConss (gN 9) gNils)))) (fIfS (fNotT (fBool (fCall m__law_like (fCons (fLst (fCons (fCall m_number_above (fCons (fVar 5) (fCons (fVar 6) fNil))) (fCons (fCall m_is_shape_prime (fCons (fVar 5) (fCons (fVar 6) fNil))) (fCons (fCall m_proth_paper (fCons (fVar 5) (fCons (fVar 6) fNil))) fNil)))) (fCons (fLst (fCons (fOp gMul (fRd 9) (fRd 9)) (fCons (fC (.bl false)) (fCons (fC .non) fNil)))) fNil))))) (fRet (fC (.bl false))) fSkip)) (fSeq (fFor (fIt (fOp gAdd (fRd 3) (fLst (fCons (fTup (fCons (fC (.int 7)) (fCons (fC (.int 26)) (fCons (fC (.int 469762049)) fNil)))) (fCons (fTup (fCons (fC (.int 119)) (fCons (fC (.int 23)) (fCons (fC (.int 998244353)) fNil)))) fNil))))) (gT (gConss (gN 5) (gConss (gN 6) (gConss (gN 7) gNils)))) (fIfS (fNotT (fBool (fCall m__law_like (fCons (fLst (fCons (fCall m_number_above (fCons (fVar 5) (fCons (fVar 6) fNil))) (fCons (fCall m_is_shape_prime (fCons (fVar 5) (fCons (fVar 6) fNil))) fNil))) (fCons (fLst (fCons (fVar 7) (fCons (fC (.bl true)) fNil))) fNil))))) (fRet (fC (.bl false))) fSkip)) (fSeq (fAsg (gT (gConss (gN 5) (gConss (gN 6) gNils))) (fCall m__law_some (fCons (fVar 1) (fCons (fLst (fCons (fTup (fCons (fC (.int 3)) (fCons (fC (.int 12)) fNil))) (fCons (fTup (fCons (fC (.int 7)) (fCons (fC (.int 20)) fNil))) (fCons (fTup (fCons (fC (.int 119)) (fCons (fC (.int 23)) fNil))) (fCons (fTup (fCons (fC (.int 5)) (fCons (fC (.int 25)) fNil))) fNil))))) fNil)))) (fSeq (fSet 7 (fCall m__law_above (fCons (fVar 5) (fCons (fVar 6) fNil)))) (fSeq (fSet 10 (fOp gAdd (fC (.int 2)) (fCall m__law_roll (fCons (fVar 1) (fCons (fOp gSub (fRd 7) (fC (.int 2))) fNil))))) (fRet (fCall m__law_like (fCons (fCall m_is_proth_paper (fCons (fVar 5) (fCons (fVar 6) (fCons (fVar 10) fNil)))) (fCons (fOp gEq (fCall m__law_sign (fCons (fVar 10) (fCons (fVar 7) fNil))) (fUn gNeg (fC (.int 1)))) fNil))))))))))))))))))
def m_law : MF := fun ds S => bodyR (f_law fuel (startE N_law ds) S)
end LW

end

section
set_option autoImplicit false
set_option autoImplicit false
/-! plain number theory: primes, Lagrange's bound for roots -/
namespace NT
/-- no divisor but the trivial ones -/
def Pm (g : Int) : Prop := 2 ≤ g ∧ ∀ d, 2 ≤ d → d < g → ¬ d ∣ g
theorem Pm.euclid {g a b : Int} (h : Pm g) (hd : g ∣ a * b) : g ∣ a ∨ g ∣ b := by
  obtain ⟨h2, hp⟩ := h
  have hg : (Int.gcd g a : Int) ∣ g := Int.gcd_dvd_left ..
  have h0 : 0 < Int.gcd g a := Int.gcd_pos_of_ne_zero_left _ (by omega)
  have hle : (Int.gcd g a : Int) ≤ g := Int.le_of_dvd (by omega) hg
  by_cases e : (Int.gcd g a : Int) = g
  · left; rw [← e]; exact Int.gcd_dvd_right ..
  · by_cases e1 : Int.gcd g a = 1
    · right
      have q : g.natAbs ∣ a.natAbs * b.natAbs := by rw [← Int.natAbs_mul]; exact Int.natAbs_dvd_natAbs.mpr hd
      exact Int.natAbs_dvd_natAbs.mp (Nat.Coprime.dvd_of_dvd_mul_left (k := g.natAbs) (m := a.natAbs) e1 q)
    · exact absurd hg (hp _ (by omega) (by omega))
/-- the value of a row of coefficients -/
def ev : List Int → Int → Int
  | [], _ => 0
  | c :: l, x => c + x * ev l x
def dv (a : Int) : List Int → List Int
  | [] => []
  | [_] => []
  | _ :: c :: l => ev (c :: l) a :: dv a (c :: l)
theorem dv_ev (a x : Int) : ∀ l, ev l x - ev l a = (x - a) * ev (dv a l) x
  | [] => by simp [ev, dv]
  | [c] => by simp [ev, dv]
  | b :: c :: l => by
    have ih := dv_ev a x (c :: l)
    have e1 : ev (b :: c :: l) x = b + x * ev (c :: l) x := rfl
    have e2 : ev (b :: c :: l) a = b + a * ev (c :: l) a := rfl
    have e3 : ev (dv a (b :: c :: l)) x = ev (c :: l) a + x * ev (dv a (c :: l)) x := rfl
    rw [e1, e2, e3, Int.mul_add]
    have : (x - a) * (x * ev (dv a (c :: l)) x) = x * (ev (c :: l) x - ev (c :: l) a) := by rw [ih, Int.mul_left_comm]
    rw [this, Int.mul_sub, Int.sub_mul]
    omega
theorem dv_last (a : Int) : ∀ l (n : Nat), l.length = n + 2 → l.getLast? = some 1 → (dv a l).length = n + 1 ∧ (dv a l).getLast? = some 1
  | [], n, h, _ => by simp at h
  | [c], n, h, _ => by simp at h
  | [b, c], n, h, h2 => by
    simp at h h2; subst h; subst h2
    simp [dv, ev]
  | b :: c :: d :: l, n, h, h2 => by
    cases n with
    | zero => simp at h
    | succ n =>
      obtain ⟨h3, h4⟩ := dv_last a (c :: d :: l) n (by simpa using h) (by simpa using h2)
      simp only [dv] at h3 h4 ⊢
      refine ⟨by simpa using h3, ?_⟩
      rw [List.getLast?_cons_cons]; exact h4
/-- a row with 1 at its end has not more roots than steps -/
theorem roots_few {g : Int} (hp : Pm g) : ∀ (n : Nat) (l : List Int) (a : Int), l.length = n + 1 → l.getLast? = some 1 → (n : Int) < g → (∀ k : Nat, k ≤ n → g ∣ ev l (a + k)) → False
  | 0, l, a, h1, h2, h3, h4 => by
    match l, h1 with
    | [c], _ =>
      simp at h2; subst h2
      have := h4 0 (Nat.le_refl _)
      simp [ev] at this
      have := Int.le_of_dvd (by decide) this
      have := hp.1; omega
  | n + 1, l, a, h1, h2, h3, h4 => by
    obtain ⟨h5, h6⟩ := dv_last a l n h1 h2
    refine roots_few hp n (dv a l) (a + 1) h5 h6 (by omega) fun k hk => ?_
    have e1 := h4 (k + 1) (by omega)
    have e0 := h4 0 (by omega)
    simp at e0
    have e2 : (a + 1 + (k : Int)) = a + ((k + 1 : Nat) : Int) := by omega
    rw [e2]
    have e3 := dv_ev a (a + ((k + 1 : Nat) : Int)) l
    have e4 : g ∣ (a + ((k + 1 : Nat) : Int) - a) * ev (dv a l) (a + ((k + 1 : Nat) : Int)) := by
      rw [← e3]; exact Int.dvd_sub e1 e0
    rcases hp.euclid e4 with e | e
    · exfalso
      have := Int.le_of_dvd (by omega) e
      omega
    · exact e
theorem ev_rep (x : Int) : ∀ k : Nat, ev (List.replicate k 0 ++ [1]) x = x ^ k
  | 0 => by simp [ev]
  | k + 1 => by
    have : List.replicate (k + 1) (0 : Int) ++ [1] = 0 :: (List.replicate k 0 ++ [1]) := by rw [List.replicate_succ]; rfl
    rw [this]
    simp only [ev, ev_rep x k, Int.pow_succ]
    rw [Int.mul_comm]; omega
/-- not all of 1 .. h + 1 have a power 1 -/
theorem pow_one_few {g : Int} (hp : Pm g) {h : Nat} (h0 : 0 < h) (hg : (h : Int) < g) (ha : ∀ x : Int, 1 ≤ x → x ≤ h + 1 → g ∣ x ^ h - 1) : False := by
  obtain ⟨k, rfl⟩ : ∃ k, h = k + 1 := ⟨h - 1, by omega⟩
  refine roots_few hp (k + 1) (-1 :: (List.replicate k 0 ++ [1])) 1 (by simp) ?_ hg fun j hj => ?_
  · rw [List.getLast?_cons]; simp
  · have := ha (1 + j) (by omega) (by omega)
    simp only [ev, ev_rep]
    rw [Int.pow_succ, Int.mul_comm] at this
    have e : -1 + (1 + (j : Int)) * (1 + (j : Int)) ^ k = (1 + (j : Int)) * (1 + (j : Int)) ^ k - 1 := by omega
    rw [e]; exact this
end NT

end

section
set_option autoImplicit false
set_option autoImplicit false
namespace NT
theorem emod_dvd_sub {g x r : Int} (h : x % g = r) : g ∣ x - r := by
  rw [← h]; exact Int.dvd_self_sub_emod
/-- if no base tells that g is no prime, the first base with another sign is a paper -/
theorem no_false {g : Int} {h : Nat} {s : Int → Int} (h5 : 5 ≤ g) (hh : (h : Int) = g / 2) (ho : g % 2 = 1)
    (ha : ∀ b, 2 ≤ b → b < g → (b ^ h % g = 1 ∧ s b = 1) ∨ (b ^ h % g = g - 1 ∧ s b = -1)) {b0 : Int} (h1 : 2 ≤ b0) (h2 : b0 ≤ g) (h3 : s b0 ≠ 1) (h4 : ∀ x, 2 ≤ x → x < b0 → s x = 1) :
    Pm g ∧ b0 ^ h % g = g - 1 := by
  have hp : Pm g := by
    refine ⟨by omega, fun d d1 d2 d3 => ?_⟩
    have e : d ∣ d ^ h := by
      obtain ⟨k, rfl⟩ : ∃ k, h = k + 1 := ⟨h - 1, by omega⟩
      rw [Int.pow_succ]; exact Int.dvd_mul_left ..
    have e2 : d ∣ d ^ h % g := by
      rw [Int.emod_def]
      exact Int.dvd_sub e (Int.dvd_trans d3 (Int.dvd_mul_right ..))
    have e3 : d ∣ 1 := by
      rcases ha d d1 d2 with ⟨q, _⟩ | ⟨q, _⟩
      · rw [q] at e2; exact e2
      · rw [q] at e2
        have := Int.dvd_sub d3 e2
        have x : g - (g - 1) = 1 := by omega
        rw [x] at this; exact this
    have := Int.le_of_dvd (by decide) e3
    omega
  refine ⟨hp, ?_⟩
  rcases Int.lt_or_le b0 g with c | c
  · rcases ha b0 h1 c with ⟨q, r⟩ | ⟨q, r⟩
    · exact absurd r h3
    · exact q
  · exfalso
    have e : b0 = g := by omega
    subst e
    refine pow_one_few hp (h := h) (by omega) (by omega) fun x x1 x2 => ?_
    by_cases c1 : x = 1
    · subst c1; rw [Int.one_pow]; exact ⟨0, by omega⟩
    · rcases ha x (by omega) (by omega) with ⟨q, r⟩ | ⟨q, r⟩
      · exact emod_dvd_sub q
      · rw [h4 x (by omega) (by omega)] at r; cases r
end NT

end

section
set_option autoImplicit false
set_option autoImplicit false
namespace NT
/-- no divisor from d on up to the root -/
def tri (n : Int) : Nat → Int → Bool
  | 0, _ => true
  | k + 1, d => if d * d ≤ n then (if n % d = 0 then false else tri n k (d + 1)) else true
theorem tri_spec {n : Int} : ∀ (k : Nat) (d : Int), 1 ≤ d → n < (d + k) * (d + k) → (tri n k d = true ↔ ∀ x, d ≤ x → x * x ≤ n → ¬ x ∣ n)
  | 0, d, h1, h2 => by
    simp only [tri, true_iff]
    intro x x1 x2
    have : d * d ≤ x * x := Int.mul_le_mul x1 x1 (by omega) (by omega)
    simp at h2; omega
  | k + 1, d, h1, h2 => by
    have e : (d + ((k + 1 : Nat) : Int)) = d + 1 + k := by omega
    rw [e] at h2
    have ih := tri_spec k (d + 1) (by omega) h2
    unfold tri
    by_cases c : d * d ≤ n
    · rw [if_pos c]
      by_cases c2 : n % d = 0
      · rw [if_pos c2]
        constructor
        · intro z; cases z
        · intro z; exact absurd (Int.dvd_of_emod_eq_zero c2) (z d (Int.le_refl _) c)
      · rw [if_neg c2, ih]
        constructor
        · intro z x x1 x2
          by_cases e : x = d
          · subst e; exact fun w => c2 (Int.emod_eq_zero_of_dvd w)
          · exact z x (by omega) x2
        · intro z x x1 x2; exact z x (by omega) x2
    · rw [if_neg c]
      simp only [true_iff]
      intro x x1 x2
      have : d * d ≤ x * x := Int.mul_le_mul x1 x1 (by omega) (by omega)
      omega
theorem Pm_iff {n : Int} (h : 2 ≤ n) : Pm n ↔ ∀ x, 2 ≤ x → x * x ≤ n → ¬ x ∣ n := by
  constructor
  · intro hp x x1 x2
    have : x * 2 ≤ x * x := Int.mul_le_mul_of_nonneg_left x1 (by omega)
    exact hp.2 x x1 (by omega)
  · intro hx
    refine ⟨h, fun d d1 d2 d3 => ?_⟩
    obtain ⟨e, he⟩ := d3
    have e0 : 0 < e := by
      rcases Int.lt_or_le 0 e with w | w
      · exact w
      · have : d * e ≤ 0 := Int.mul_nonpos_of_nonneg_of_nonpos (by omega) w
        omega
    have e1 : e ≠ 1 := fun z => by subst z; omega
    rcases Int.le_total d e with w | w
    · have : d * d ≤ d * e := Int.mul_le_mul_of_nonneg_left w (by omega)
      exact hx d d1 (by omega) ⟨e, he⟩
    · have : e * e ≤ d * e := Int.mul_le_mul_of_nonneg_right w (by omega)
      exact hx e (by omega) (by omega) ⟨d, by rw [Int.mul_comm]; exact he⟩
noncomputable def pmb (n : Int) : Bool := @decide (Pm n) (Classical.propDecidable _)
theorem pmb_iff {n : Int} : pmb n = true ↔ Pm n := by unfold pmb; exact @decide_eq_true_iff _ (Classical.propDecidable _)
theorem pmb_small {n : Int} (h : n < 2) : pmb n = false := by
  cases e : pmb n with
  | false => rfl
  | true => have := (pmb_iff.mp e).1; omega
theorem pmb_tri {n : Int} {k : Nat} (h : 2 ≤ n) (hk : n < (2 + (k : Int)) * (2 + k)) : pmb n = tri n k 2 := by
  have := (tri_spec (n := n) k 2 (by decide) hk).trans (Pm_iff h).symm
  cases e : tri n k 2 with
  | true => exact pmb_iff.mpr (this.mp e)
  | false =>
    cases e2 : pmb n with
    | false => rfl
    | true => rw [this.mpr (pmb_iff.mp e2)] at e; cases e
end NT

end

section
set_option autoImplicit false
set_option autoImplicit false
/-! sums and products over rows, rows that are the same but for their order -/
namespace NT
def sm {α : Type} (l : List α) (f : α → Int) : Int := match l with
  | [] => 0
  | a :: l => f a + sm l f
def pr {α : Type} (l : List α) (f : α → Int) : Int := match l with
  | [] => 1
  | a :: l => f a * pr l f
section
variable {α β : Type}
theorem sm_congr {f g : α → Int} : ∀ {l : List α}, (∀ a ∈ l, f a = g a) → sm l f = sm l g
  | [], _ => rfl
  | a :: l, h => by
    simp only [sm]
    rw [h a (List.mem_cons_self ..), sm_congr fun x hx => h x (List.mem_cons_of_mem _ hx)]
theorem pr_congr {f g : α → Int} : ∀ {l : List α}, (∀ a ∈ l, f a = g a) → pr l f = pr l g
  | [], _ => rfl
  | a :: l, h => by
    simp only [pr]
    rw [h a (List.mem_cons_self ..), pr_congr fun x hx => h x (List.mem_cons_of_mem _ hx)]
theorem sm_add {f g : α → Int} : ∀ {l : List α}, sm l (fun a => f a + g a) = sm l f + sm l g
  | [] => rfl
  | a :: l => by simp only [sm, sm_add (l := l)]; omega
theorem sm_mul {c : Int} {f : α → Int} : ∀ {l : List α}, sm l (fun a => c * f a) = c * sm l f
  | [] => by simp [sm]
  | a :: l => by simp only [sm, sm_mul (l := l), Int.mul_add]
theorem sm_const {c : Int} : ∀ {l : List α}, sm l (fun _ => c) = c * l.length
  | [] => by simp [sm]
  | a :: l => by
    simp only [sm, sm_const (l := l), List.length_cons]
    push_cast
    rw [Int.mul_add]; omega
theorem pr_mul {f g : α → Int} : ∀ {l : List α}, pr l (fun a => f a * g a) = pr l f * pr l g
  | [] => rfl
  | a :: l => by
    simp only [pr, pr_mul (l := l)]
    rw [Int.mul_assoc, Int.mul_assoc, Int.mul_left_comm (g a)]
theorem pr_const {c : Int} : ∀ {l : List α}, pr l (fun _ => c) = c ^ l.length
  | [] => by simp [pr]
  | a :: l => by simp only [pr, pr_const (l := l), List.length_cons, Int.pow_succ]; rw [Int.mul_comm]
theorem sm_map {f : β → Int} {s : α → β} : ∀ {l : List α}, sm (l.map s) f = sm l (fun a => f (s a))
  | [] => rfl
  | a :: l => by simp only [List.map_cons, sm, sm_map (l := l)]
theorem pr_map {f : β → Int} {s : α → β} : ∀ {l : List α}, pr (l.map s) f = pr l (fun a => f (s a))
  | [] => rfl
  | a :: l => by simp only [List.map_cons, pr, pr_map (l := l)]
theorem sm_swap {f : α → β → Int} : ∀ {l : List α} {m : List β}, sm l (fun a => sm m fun b => f a b) = sm m fun b => sm l fun a => f a b
  | [], m => by simp only [sm]; rw [sm_const]; simp
  | a :: l, m => by simp only [sm, sm_swap (l := l)]; rw [sm_add]
theorem sm_perm {f : α → Int} {l m : List α} (h : l.Perm m) : sm l f = sm m f := by
  induction h with
  | nil => rfl
  | cons x _ ih => simp only [sm, ih]
  | swap x y l => simp only [sm]; omega
  | trans _ _ h1 h2 => rw [h1, h2]
theorem pr_perm {f : α → Int} {l m : List α} (h : l.Perm m) : pr l f = pr m f := by
  induction h with
  | nil => rfl
  | cons x _ ih => simp only [pr, ih]
  | swap x y l => simp only [pr]; rw [Int.mul_left_comm]
  | trans _ _ h1 h2 => rw [h1, h2]
/-- without duplicates, among others, as many: the same ones -/
theorem perm_of_sub [BEq α] [LawfulBEq α] : ∀ {l m : List α}, l.Nodup → (∀ a ∈ l, a ∈ m) → m.length ≤ l.length → l.Perm m
  | [], m, _, _, h => by
    have : m = [] := List.length_eq_zero_iff.mp (by simpa using h)
    subst this; exact .nil
  | a :: l, m, hn, hs, hl => by
    rw [List.nodup_cons] at hn
    have ha := hs a (List.mem_cons_self ..)
    have hp := List.perm_cons_erase ha
    refine .trans ?_ hp.symm
    refine .cons a (perm_of_sub hn.2 (fun x hx => ?_) ?_)
    · have hne : x ≠ a := fun z => hn.1 (z ▸ hx)
      exact (List.mem_erase_of_ne hne).mpr (hs x (List.mem_cons_of_mem _ hx))
    · have := hp.length_eq
      simp at this hl; omega
theorem nodup_map {s : α → β} : ∀ {l : List α}, l.Nodup → (∀ a ∈ l, ∀ b ∈ l, s a = s b → a = b) → (l.map s).Nodup
  | [], _, _ => List.nodup_nil
  | a :: l, hn, hi => by
    rw [List.nodup_cons] at hn
    rw [List.map_cons, List.nodup_cons]
    refine ⟨fun h => ?_, nodup_map hn.2 fun x hx y hy => hi x (List.mem_cons_of_mem _ hx) y (List.mem_cons_of_mem _ hy)⟩
    obtain ⟨x, hx, e⟩ := List.mem_map.mp h
    have := hi x (List.mem_cons_of_mem _ hx) a (List.mem_cons_self ..) e
    exact hn.1 (this ▸ hx)
/-- a map of a row into itself, never two to one -/
theorem perm_self [BEq α] [LawfulBEq α] {s : α → α} {l : List α} (hn : l.Nodup) (hm : ∀ a ∈ l, s a ∈ l) (hi : ∀ a ∈ l, ∀ b ∈ l, s a = s b → a = b) : (l.map s).Perm l :=
  perm_of_sub (nodup_map hn hi) (fun a ha => by obtain ⟨x, hx, rfl⟩ := List.mem_map.mp ha; exact hm x hx) (by simp)
/-- products, by a number -/
theorem pr_mod {n : Int} {f g : α → Int} : ∀ {l : List α}, (∀ a ∈ l, f a % n = g a % n) → pr l f % n = pr l g % n
  | [], _ => rfl
  | a :: l, h => by
    simp only [pr]
    rw [Int.mul_emod, h a (List.mem_cons_self ..), pr_mod fun x hx => h x (List.mem_cons_of_mem _ hx), ← Int.mul_emod]
end
/-- 1 .. h -/
def seg : Nat → List Int
  | 0 => []
  | h + 1 => ((h : Int) + 1) :: seg h
theorem mem_seg {x : Int} : ∀ {h : Nat}, x ∈ seg h ↔ 1 ≤ x ∧ x ≤ h
  | 0 => by simp [seg]; omega
  | h + 1 => by
    simp only [seg, List.mem_cons, mem_seg (h := h)]
    push_cast; omega
theorem seg_len : ∀ h : Nat, (seg h).length = h
  | 0 => rfl
  | h + 1 => by simp [seg, seg_len h]
theorem seg_nodup : ∀ h : Nat, (seg h).Nodup
  | 0 => List.nodup_nil
  | h + 1 => by
    rw [seg, List.nodup_cons]
    refine ⟨fun z => ?_, seg_nodup h⟩
    have := mem_seg.mp z
    omega
/-- how many of 1 .. h are at most t -/
theorem count_le {t : Int} : ∀ {h : Nat}, 0 ≤ t → t ≤ h → sm (seg h) (fun j => if j ≤ t then 1 else 0) = t
  | 0, h0, h1 => by simp [seg, sm]; omega
  | h + 1, h0, h1 => by
    simp only [seg, sm]
    by_cases c : t ≤ h
    · rw [count_le h0 c, if_neg (by omega)]; omega
    · have e : t = (h : Int) + 1 := by push_cast at h1; omega
      rw [if_pos (by omega)]
      have : sm (seg h) (fun j => if j ≤ t then 1 else 0) = sm (seg h) (fun _ => 1) := sm_congr fun a ha => by
        have := mem_seg.mp ha
        rw [if_pos (by omega)]
      rw [this, sm_const, seg_len]; omega
end NT

end

section
set_option autoImplicit false
set_option autoImplicit false
/-! signs by turned rests (Gauss, Schering), for any odd number; reciprocity (Eisenstein) -/
namespace NT
theorem cop_dvd {n a x : Int} (hc : Int.gcd a n = 1) (h : n ∣ a * x) : n ∣ x := by
  have q : n.natAbs ∣ a.natAbs * x.natAbs := by rw [← Int.natAbs_mul]; exact Int.natAbs_dvd_natAbs.mpr h
  have hc' : Nat.Coprime n.natAbs a.natAbs := by
    have := hc; unfold Int.gcd at this; exact (Nat.gcd_comm _ _).trans this
  exact Int.natAbs_dvd_natAbs.mp (Nat.Coprime.dvd_of_dvd_mul_left hc' q)
theorem not_dvd_small {n x : Int} (h1 : 1 ≤ x) (h2 : x < n) : ¬ n ∣ x := fun h => by
  have := Int.le_of_dvd (by omega) h; omega
def up (a n k : Int) : Bool := decide (n < 2 * (a * k % n))
def red (a n k : Int) : Int := if up a n k = true then n - a * k % n else a * k % n
def ep (a n k : Int) : Int := if up a n k = true then -1 else 1
section
variable {a b n : Int} {h : Nat}
theorem red_mem (hn : n = 2 * h + 1) (hc : Int.gcd a n = 1) {k : Int} (hk : k ∈ seg h) : red a n k ∈ seg h := by
  rw [mem_seg] at hk ⊢
  have h1 := Int.emod_nonneg (a * k) (by omega : n ≠ 0)
  have h2 := Int.emod_lt_of_pos (a * k) (by omega : 0 < n)
  have h3 : a * k % n ≠ 0 := fun z => not_dvd_small hk.1 (by omega) (cop_dvd hc (Int.dvd_of_emod_eq_zero z))
  unfold red up
  by_cases c : n < 2 * (a * k % n)
  · simp only [c, decide_true, if_true]; omega
  · simp only [c, decide_false]; simp; omega
theorem ep_red (hn : 0 < n) (k : Int) : a * k % n = ep a n k * red a n k % n := by
  have h1 := Int.emod_nonneg (a * k) (by omega : n ≠ 0)
  unfold ep red
  cases c : up a n k with
  | false => simp
  | true =>
    simp only [if_true]
    have : -1 * (n - a * k % n) = a * k % n + n * (-1) := by omega
    rw [this, Int.add_mul_emod_self_left]; simp
theorem red_ep (hn : 0 < n) (k : Int) : red a n k % n = ep a n k * (a * k) % n := by
  unfold ep red
  cases c : up a n k with
  | false => simp
  | true =>
    simp only [if_true]
    rw [Int.emod_eq_emod_iff_emod_sub_eq_zero]
    have e : n - a * k % n - -1 * (a * k) = n + (a * k - a * k % n) := by omega
    rw [e]
    have : n ∣ a * k - a * k % n := Int.dvd_self_sub_emod
    exact Int.emod_eq_zero_of_dvd (Int.dvd_add (Int.dvd_refl n) this)
theorem ep_cases (a n k : Int) : ep a n k = 1 ∨ ep a n k = -1 := by unfold ep; split <;> simp
theorem red_inj (hn : n = 2 * h + 1) (hc : Int.gcd a n = 1) {k l : Int} (hk : k ∈ seg h) (hl : l ∈ seg h) (e : red a n k = red a n l) : k = l := by
  rw [mem_seg] at hk hl
  have h0 : 0 < n := by omega
  have e1 : ep a n k * (a * k) % n = ep a n l * (a * l) % n := by rw [← red_ep h0, ← red_ep h0, e]
  have e2 : n ∣ ep a n k * (a * k) - ep a n l * (a * l) := Int.dvd_of_emod_eq_zero (Int.emod_eq_emod_iff_emod_sub_eq_zero.mp e1)
  have key : n ∣ a * (ep a n k * k - ep a n l * l) := by
    rw [Int.mul_sub, Int.mul_left_comm, Int.mul_left_comm a (ep a n l)]; exact e2
  have key := cop_dvd hc key
  rcases ep_cases a n k with x | x <;> rcases ep_cases a n l with y | y <;> rw [x, y] at key
  · rcases Int.lt_trichotomy k l with z | z | z
    · have : n ∣ l - k := by have := Int.dvd_neg.mpr key; have e : -(1 * k - 1 * l) = l - k := by omega
                             rw [e] at this; exact this
      exact absurd this (not_dvd_small (by omega) (by omega))
    · exact z
    · have : n ∣ k - l := by have e : 1 * k - 1 * l = k - l := by omega
                             rw [e] at key; exact key
      exact absurd this (not_dvd_small (by omega) (by omega))
  · have : n ∣ k + l := by have e : 1 * k - -1 * l = k + l := by omega
                           rw [e] at key; exact key
    exact absurd this (not_dvd_small (by omega) (by omega))
  · have : n ∣ k + l := by have := Int.dvd_neg.mpr key; have e : -(-1 * k - 1 * l) = k + l := by omega
                           rw [e] at this; exact this
    exact absurd this (not_dvd_small (by omega) (by omega))
  · rcases Int.lt_trichotomy k l with z | z | z
    · have : n ∣ l - k := by have e : -1 * k - -1 * l = l - k := by omega
                             rw [e] at key; exact key
      exact absurd this (not_dvd_small (by omega) (by omega))
    · exact z
    · have : n ∣ k - l := by have := Int.dvd_neg.mpr key; have e : -(-1 * k - -1 * l) = k - l := by omega
                             rw [e] at this; exact this
      exact absurd this (not_dvd_small (by omega) (by omega))
theorem red_perm (hn : n = 2 * h + 1) (hc : Int.gcd a n = 1) : ((seg h).map (red a n)).Perm (seg h) :=
  perm_self (seg_nodup h) (fun _ hk => red_mem hn hc hk) fun _ hk _ hl e => red_inj hn hc hk hl e
/-- the sign -/
def J (a n : Int) : Int := if Int.gcd a n = 1 then pr (seg (n / 2).toNat) (ep a n) else 0
theorem half_of (hn : n = 2 * h + 1) : (n / 2).toNat = h := by omega
theorem J_of (hn : n = 2 * h + 1) (hc : Int.gcd a n = 1) : J a n = pr (seg h) (ep a n) := by
  unfold J; rw [if_pos hc, half_of hn]
/-- Gauss -/
theorem gauss (hn : n = 2 * h + 1) (hc : Int.gcd a n = 1) : a ^ h * pr (seg h) (fun k => k) % n = J a n * pr (seg h) (fun k => k) % n := by
  have h0 : 0 < n := by omega
  have e1 : a ^ h * pr (seg h) (fun k => k) = pr (seg h) (fun k => a * k) := by rw [pr_mul, pr_const, seg_len]
  rw [e1, J_of hn hc, pr_mod (g := fun k => ep a n k * red a n k) fun k _ => ep_red h0 k, pr_mul]
  congr 2
  rw [← pr_map (f := fun k => k) (s := red a n), pr_perm (red_perm hn hc)]
theorem J_unit (a n : Int) : J a n = 0 ∨ J a n = 1 ∨ J a n = -1 := by
  unfold J
  split
  · right
    have : ∀ l : List Int, pr l (ep a n) = 1 ∨ pr l (ep a n) = -1 := by
      intro l
      induction l with
      | nil => left; rfl
      | cons x l ih =>
        simp only [pr]
        rcases ep_cases a n x with e | e <;> rcases ih with g | g <;> rw [e, g] <;> simp
    exact this _
  · left; rfl
theorem J_mod (a n : Int) : J (a % n) n = J a n := by
  have g : Int.gcd (a % n) n = Int.gcd a n := by rw [Int.emod_def, Int.gcd_sub_mul_left_left]
  unfold J
  rw [g]
  congr 1
  apply pr_congr
  intro k _
  unfold ep up
  have : a % n * k % n = a * k % n := by rw [Int.mul_emod, Int.emod_emod, ← Int.mul_emod]
  rw [this]
theorem gcd_mul_one {a b n : Int} (ha : Int.gcd a n = 1) (hb : Int.gcd b n = 1) : Int.gcd (a * b) n = 1 := by
  unfold Int.gcd at *
  rw [Int.natAbs_mul]
  exact Nat.Coprime.mul_left ha hb
theorem gcd_of_mul {a b n : Int} (h : Int.gcd (a * b) n = 1) : Int.gcd a n = 1 ∧ Int.gcd b n = 1 := by
  unfold Int.gcd at *
  rw [Int.natAbs_mul] at h
  exact ⟨Nat.Coprime.coprime_mul_right h, Nat.Coprime.coprime_mul_left h⟩
theorem up_neg (hn : n = 2 * h + 1) {x y : Int} (hx : ¬ n ∣ x) (e : y % n = (-1 * x) % n) : (decide (n < 2 * (y % n))) = !decide (n < 2 * (x % n)) := by
  have h1 := Int.emod_nonneg x (by omega : n ≠ 0)
  have h2 := Int.emod_lt_of_pos x (by omega : 0 < n)
  have h3 : x % n ≠ 0 := fun z => hx (Int.dvd_of_emod_eq_zero z)
  have e2 : y % n = n - x % n := by
    rw [e]
    have : -1 * x = (n - x % n) + n * (-1 - x / n) := by
      have := Int.mul_ediv_add_emod x n
      rw [Int.mul_sub]; omega
    rw [this, Int.add_mul_emod_self_left]
    exact Int.emod_eq_of_lt (by omega) (by omega)
  rw [e2]
  by_cases c : n < 2 * (x % n)
  · have : ¬ n < 2 * (n - x % n) := by omega
    simp [c, this]
  · have : n < 2 * (n - x % n) := by omega
    simp [c, this]
theorem ep_mul (hn : n = 2 * h + 1) (ha : Int.gcd a n = 1) (hb : Int.gcd b n = 1) {k : Int} (hk : k ∈ seg h) : ep (a * b) n k = ep a n (red b n k) * ep b n k := by
  have h0 : 0 < n := by omega
  have hr := mem_seg.mp (red_mem hn hb hk)
  have e1 := ep_red (a := b) h0 k
  have e2 : a * b * k % n = a * (ep b n k * red b n k) % n := by
    rw [Int.mul_assoc, Int.mul_emod, e1, ← Int.mul_emod]
  rcases ep_cases b n k with x | x
  · rw [x] at e2 ⊢
    rw [Int.one_mul] at e2
    unfold ep up
    rw [e2]; simp
  · rw [x] at e2 ⊢
    have hd : ¬ n ∣ a * red b n k := fun z => not_dvd_small hr.1 (by omega) (cop_dvd ha z)
    have e3 : a * b * k % n = (-1 * (a * red b n k)) % n := by rw [e2, Int.mul_left_comm]
    have := up_neg hn hd e3
    unfold ep up
    rw [this]
    cases decide (n < 2 * (a * red b n k % n)) <;> simp
theorem J_mul (hn : n = 2 * h + 1) : J (a * b) n = J a n * J b n := by
  by_cases hab : Int.gcd (a * b) n = 1
  · obtain ⟨ha, hb⟩ := gcd_of_mul hab
    rw [J_of hn hab, J_of hn ha, J_of hn hb, pr_congr fun k hk => ep_mul hn ha hb hk, pr_mul]
    congr 1
    rw [← pr_map (f := ep a n) (s := red b n), pr_perm (red_perm hn hb)]
  · have : J (a * b) n = 0 := by unfold J; rw [if_neg hab]
    rw [this]
    by_cases ha : Int.gcd a n = 1
    · have hb : Int.gcd b n ≠ 1 := fun hb => hab (gcd_mul_one ha hb)
      have : J b n = 0 := by unfold J; rw [if_neg hb]
      rw [this]; simp
    · have : J a n = 0 := by unfold J; rw [if_neg ha]
      rw [this]; simp
/-! ### two -/
theorem pr_two {t : Int} : ∀ {h : Nat}, 0 ≤ t → t ≤ h → pr (seg h) (fun k => if k ≤ t then 1 else -1) = (-1) ^ (h - t.toNat)
  | 0, h0, h1 => by simp [seg, pr]
  | h + 1, h0, h1 => by
    simp only [seg, pr]
    by_cases c : t ≤ h
    · rw [if_neg (by omega), pr_two h0 c]
      have : h + 1 - t.toNat = (h - t.toNat) + 1 := by omega
      rw [this, Int.pow_succ]; omega
    · have e : t = (h : Int) + 1 := by push_cast at h1; omega
      have : pr (seg h) (fun k => if k ≤ t then 1 else -1) = pr (seg h) (fun _ => 1) := pr_congr fun a ha => by
        have := mem_seg.mp ha
        rw [if_pos (by omega)]
      rw [if_pos (by omega), this, pr_const, Int.one_pow]
      have : h + 1 - t.toNat = 0 := by omega
      rw [this]; rfl
theorem neg_one_pow (k : Nat) : (-1 : Int) ^ k = if k % 2 = 0 then 1 else -1 := by
  induction k with
  | zero => rfl
  | succ k ih =>
    rw [Int.pow_succ, ih]
    by_cases c : k % 2 = 0
    · rw [if_pos c, if_neg (by omega)]; rfl
    · rw [if_neg c, if_pos (by omega)]; rfl
theorem gcd_two (hn : n = 2 * h + 1) : Int.gcd 2 n = 1 := by
  unfold Int.gcd
  have : n.natAbs = 2 * h + 1 := by omega
  rw [this]
  show Nat.gcd 2 (2 * h + 1) = 1
  rw [Nat.gcd_rec]
  have : (2 * h + 1) % 2 = 1 := by omega
  rw [this]; rfl
theorem J_two (hn : n = 2 * h + 1) : J 2 n = if n % 8 = 3 ∨ n % 8 = 5 then -1 else 1 := by
  rw [J_of hn (gcd_two hn)]
  have e : pr (seg h) (ep 2 n) = pr (seg h) (fun k => if k ≤ (h / 2 : Nat) then 1 else -1) := pr_congr fun k hk => by
    have hk := mem_seg.mp hk
    have e1 : 2 * k % n = 2 * k := Int.emod_eq_of_lt (by omega) (by omega)
    unfold ep up
    rw [e1]
    by_cases c : k ≤ (h / 2 : Nat)
    · have : ¬ n < 2 * (2 * k) := by omega
      rw [if_pos c]; simp [this]
    · have : n < 2 * (2 * k) := by omega
      rw [if_neg c]; simp [this]
  rw [e, pr_two (by omega) (by omega), neg_one_pow]
  have e2 : ((h / 2 : Nat) : Int).toNat = h / 2 := by omega
  rw [e2]
  by_cases c : n % 8 = 3 ∨ n % 8 = 5
  · rw [if_pos c, if_neg (by omega)]
  · rw [if_neg c, if_pos (by omega)]
/-! ### reciprocity -/
def par (x : Int) : Int := if x % 2 = 0 then 1 else -1
theorem par_add (x y : Int) : par (x + y) = par x * par y := by
  unfold par
  by_cases c : x % 2 = 0 <;> by_cases d : y % 2 = 0
  · rw [if_pos c, if_pos d, if_pos (by omega)]; rfl
  · rw [if_pos c, if_neg d, if_neg (by omega)]; rfl
  · rw [if_neg c, if_pos d, if_neg (by omega)]; rfl
  · rw [if_neg c, if_neg d, if_pos (by omega)]; rfl
theorem par_ep (l : List Int) : par (sm l fun k => if up a n k = true then 1 else 0) = pr l (ep a n) := by
  induction l with
  | nil => rfl
  | cons x l ih =>
    simp only [sm, pr]
    rw [par_add, ih]
    unfold ep
    cases up a n x <;> simp [par]
/-- the sum of the quotients -/
def Fl (m n : Int) (h : Nat) : Int := sm (seg h) fun k => m * k / n
theorem even_mul {x y : Int} (hx : x % 2 = 1) : (x * y) % 2 = y % 2 := by rw [Int.mul_emod, hx, Int.one_mul, Int.emod_emod]
theorem par_Fl (hn : n = 2 * h + 1) (hm : a % 2 = 1) (hc : Int.gcd a n = 1) : par (Fl a n h) = J a n := by
  rw [J_of hn hc, ← par_ep]
  have h0 : 0 < n := by omega
  have e1 : sm (seg h) (fun k => a * k) = sm (seg h) (fun k => n * (a * k / n) + a * k % n) := sm_congr fun k _ => (Int.mul_ediv_add_emod (a * k) n).symm
  rw [sm_mul, sm_add, sm_mul] at e1
  have e2 : sm (seg h) (fun k => a * k % n) = sm (seg h) (fun k => red a n k + (if up a n k = true then 1 else 0) * (n - 2 * red a n k)) := sm_congr fun k _ => by
    unfold red
    cases c : up a n k <;> simp; omega
  have e3 : sm (seg h) (fun k => red a n k) = sm (seg h) (fun k => k) := by
    rw [← sm_map (f := fun k => k) (s := red a n), sm_perm (red_perm hn hc)]
  rw [sm_add, e3] at e2
  have e4 : (sm (seg h) fun k => (if up a n k = true then 1 else 0) * (n - 2 * red a n k)) % 2 = (sm (seg h) fun k => if up a n k = true then 1 else 0) % 2 := by
    generalize seg h = l
    induction l with
    | nil => rfl
    | cons x l ih =>
      simp only [sm]
      have : ((if up a n x = true then (1 : Int) else 0) * (n - 2 * red a n x)) % 2 = (if up a n x = true then (1 : Int) else 0) % 2 := by
        cases up a n x <;> simp; omega
      omega
  have e5 := even_mul (x := a) (y := sm (seg h) fun k => k) hm
  have e6 := even_mul (x := n) (y := sm (seg h) fun k => a * k / n) (by omega)
  have e7 : (sm (seg h) fun k => a * k / n) % 2 = (sm (seg h) fun k => if up a n k = true then 1 else 0) % 2 := by omega
  unfold par Fl
  rw [e7]
theorem Fl_count {m : Int} {hm : Nat} (hn : n = 2 * h + 1) (hM : m = 2 * hm + 1) : Fl m n h = sm (seg h) fun k => sm (seg hm) fun j => if n * j ≤ m * k then 1 else 0 := by
  unfold Fl
  apply sm_congr
  intro k hk
  have hk := mem_seg.mp hk
  have h0 : 0 < n := by omega
  have hmk : 0 ≤ m * k := Int.mul_nonneg (by omega) (by omega)
  have e : (sm (seg hm) fun j => if n * j ≤ m * k then (1 : Int) else 0) = sm (seg hm) fun j => if j ≤ m * k / n then 1 else 0 := sm_congr fun j _ => by
    have : j ≤ m * k / n ↔ n * j ≤ m * k := by rw [Int.le_ediv_iff_mul_le h0, Int.mul_comm]
    by_cases c : n * j ≤ m * k
    · rw [if_pos c, if_pos (this.mpr c)]
    · rw [if_neg c, if_neg fun z => c (this.mp z)]
  rw [e, count_le (Int.ediv_nonneg hmk (by omega))]
  have h1 : m * k / n < hm + 1 := by
    apply Int.ediv_lt_of_lt_mul h0
    have h2 : m * k ≤ m * h := Int.mul_le_mul_of_nonneg_left (by omega) (by omega)
    subst hn hM
    have h3 : (2 * (hm : Int) + 1) * h = 2 * (hm * h) + h := by rw [Int.add_mul, Int.mul_assoc]; omega
    have h4 : ((hm : Int) + 1) * (2 * h + 1) = 2 * (hm * h) + hm + (2 * h + 1) := by rw [Int.add_mul, Int.mul_add, Int.mul_left_comm]; omega
    omega
  omega
theorem lattice {m : Int} {hm : Nat} (hn : n = 2 * h + 1) (hM : m = 2 * hm + 1) (hc : Int.gcd m n = 1) : Fl m n h + Fl n m hm = h * hm := by
  rw [Fl_count hn hM, Fl_count hM hn, sm_swap (l := seg hm), ← sm_add]
  have : (sm (seg h) fun k => (sm (seg hm) fun j => if n * j ≤ m * k then (1 : Int) else 0) + sm (seg hm) fun j => if m * k ≤ n * j then 1 else 0) = sm (seg h) fun _ => (hm : Int) := sm_congr fun k hk => by
    have hk := mem_seg.mp hk
    rw [← sm_add]
    have : (sm (seg hm) fun j => (if n * j ≤ m * k then (1 : Int) else 0) + if m * k ≤ n * j then 1 else 0) = sm (seg hm) fun _ => 1 := sm_congr fun j hj => by
      have hj := mem_seg.mp hj
      have hne : n * j ≠ m * k := fun z => by
        have : n ∣ m * k := ⟨j, z.symm⟩
        exact not_dvd_small hk.1 (by omega) (cop_dvd hc this)
      rcases Int.lt_or_le (n * j) (m * k) with c | c
      · rw [if_pos (by omega), if_neg (by omega)]; rfl
      · rw [if_neg (by omega), if_pos c]; rfl
    rw [this, sm_const, seg_len]; simp
  rw [this, sm_const, seg_len, Int.mul_comm]
/-- reciprocity: the sign is kept but where both leave 3 by 4 -/
theorem recip {m : Int} {hm : Nat} (hn : n = 2 * h + 1) (hM : m = 2 * hm + 1) : J m n = if m % 4 = 3 ∧ n % 4 = 3 then - J n m else J n m := by
  by_cases hc : Int.gcd m n = 1
  · have hc' : Int.gcd n m = 1 := by rw [Int.gcd_comm]; exact hc
    have e1 := par_Fl hn (by omega : m % 2 = 1) hc
    have e2 := par_Fl hM (by omega : n % 2 = 1) hc'
    have e3 := lattice hn hM hc
    have e4 : J m n * J n m = par (h * hm) := by rw [← e1, ← e2, ← par_add, e3]
    have e5 : par (h * hm) = if m % 4 = 3 ∧ n % 4 = 3 then -1 else 1 := by
      unfold par
      have : ((h : Int) * hm) % 2 = 0 ↔ ¬ (m % 4 = 3 ∧ n % 4 = 3) := by
        rw [Int.mul_emod]
        rcases (by omega : (h : Int) % 2 = 0 ∨ (h : Int) % 2 = 1) with x | x <;> rcases (by omega : (hm : Int) % 2 = 0 ∨ (hm : Int) % 2 = 1) with y | y <;> rw [x, y] <;> simp <;> omega
      by_cases c : m % 4 = 3 ∧ n % 4 = 3
      · rw [if_pos c, if_neg (fun z => this.mp z c)]
      · rw [if_neg c, if_pos (this.mpr c)]
    rw [e5] at e4
    have u1 := J_unit m n
    have u2 := J_unit n m
    by_cases c : m % 4 = 3 ∧ n % 4 = 3
    · rw [if_pos c] at e4 ⊢
      rcases u1 with x | x | x <;> rcases u2 with y | y | y <;> rw [x, y] at e4 ⊢ <;> simp at e4 ⊢
    · rw [if_neg c] at e4 ⊢
      rcases u1 with x | x | x <;> rcases u2 with y | y | y <;> rw [x, y] at e4 ⊢ <;> simp at e4 ⊢
  · have hc' : Int.gcd n m ≠ 1 := by rw [Int.gcd_comm]; exact hc
    unfold J
    rw [if_neg hc, if_neg hc']
    simp
end
end NT

end

section
set_option autoImplicit false
set_option autoImplicit false
/-! Euler's criterion, Fermat, Proth -/
namespace NT
theorem Pm.not_dvd_mul {p a b : Int} (hp : Pm p) (ha : ¬ p ∣ a) (hb : ¬ p ∣ b) : ¬ p ∣ a * b := fun h => by
  rcases hp.euclid h with z | z
  · exact ha z
  · exact hb z
theorem Pm.gcd_one {p a : Int} (hp : Pm p) (ha : ¬ p ∣ a) : Int.gcd a p = 1 := by
  have h1 : (Int.gcd a p : Int) ∣ p := Int.gcd_dvd_right ..
  have h2 : (Int.gcd a p : Int) ∣ a := Int.gcd_dvd_left ..
  have h0 : 0 < Int.gcd a p := Int.gcd_pos_of_ne_zero_right _ (by have := hp.1; omega)
  have hle : (Int.gcd a p : Int) ≤ p := Int.le_of_dvd (by have := hp.1; omega) h1
  apply Classical.byContradiction
  intro h
  by_cases c : (Int.gcd a p : Int) = p
  · rw [c] at h2; exact ha h2
  · exact hp.2 _ (by omega) (by omega) h1
theorem Pm.pr_not {p : Int} (hp : Pm p) : ∀ {h : Nat}, (h : Int) < p → ¬ p ∣ pr (seg h) (fun k => k)
  | 0, _ => by
    intro z
    have := Int.le_of_dvd (by decide) z
    have := hp.1
    simp [seg, pr] at *
    omega
  | h + 1, hh => by
    simp only [seg, pr]
    exact hp.not_dvd_mul (not_dvd_small (by omega) (by push_cast at hh; omega)) (hp.pr_not (by push_cast at hh; omega))
theorem emod_eq_iff {a b n : Int} : a % n = b % n ↔ n ∣ a - b := by
  rw [Int.emod_eq_emod_iff_emod_sub_eq_zero]
  exact ⟨Int.dvd_of_emod_eq_zero, Int.emod_eq_zero_of_dvd⟩
/-- Euler -/
theorem Pm.euler {p a : Int} {h : Nat} (hp : Pm p) (hn : p = 2 * h + 1) (h0 : 0 < h) : a ^ h % p = J a p % p := by
  by_cases ha : p ∣ a
  · have e : J a p = 0 := by
      unfold J
      rw [if_neg]
      intro z
      have : p ∣ 1 := by rw [← (show ((Int.gcd a p : Nat) : Int) = 1 by rw [z]; rfl)]; exact Int.dvd_coe_gcd ha (Int.dvd_refl p)
      have := Int.le_of_dvd (by decide) this
      have := hp.1; omega
    rw [e]
    obtain ⟨k, rfl⟩ : ∃ k, h = k + 1 := ⟨h - 1, by omega⟩
    rw [Int.pow_succ]
    have : p ∣ a ^ k * a := Int.dvd_trans ha (Int.dvd_mul_left ..)
    rw [Int.emod_eq_zero_of_dvd this]; simp
  · have hc := hp.gcd_one ha
    have g := gauss hn hc
    rw [emod_eq_iff] at g ⊢
    rw [← Int.sub_mul] at g
    rcases hp.euclid g with z | z
    · exact z
    · exact absurd z (hp.pr_not (by omega))
theorem Pm.J_ne {p a : Int} (hp : Pm p) (ha : ¬ p ∣ a) : J a p = 1 ∨ J a p = -1 := by
  rcases J_unit a p with h | h | h
  · exfalso
    unfold J at h
    rw [if_pos (hp.gcd_one ha)] at h
    have : ∀ l : List Int, pr l (ep a p) ≠ 0 := by
      intro l
      induction l with
      | nil => simp [pr]
      | cons x l ih =>
        simp only [pr]
        rcases ep_cases a p x with e | e <;> rw [e] <;> simp [ih]
    exact this _ h
  · exact .inl h
  · exact .inr h
/-- Fermat, for odd primes -/
theorem Pm.fermat {p a : Int} {h : Nat} (hp : Pm p) (hn : p = 2 * h + 1) (h0 : 0 < h) (ha : ¬ p ∣ a) : p ∣ a ^ (2 * h) - 1 := by
  have e := hp.euler (a := a) hn h0
  rw [emod_eq_iff] at e
  have : a ^ (2 * h) - 1 = (a ^ h - J a p) * (a ^ h + J a p) := by
    have j : J a p * J a p = 1 := by rcases hp.J_ne ha with x | x <;> rw [x] <;> rfl
    rw [Nat.mul_comm, Int.pow_mul, Int.pow_succ, Int.pow_succ, Int.pow_zero, Int.one_mul, Int.sub_mul, Int.mul_add, Int.mul_add, j, Int.mul_comm (J a p)]
    omega
  rw [this]
  exact Int.dvd_trans e (Int.dvd_mul_right ..)
/-- what is no prime has a prime divisor up to its root -/
theorem prime_div {n : Int} (h2 : 2 ≤ n) (hn : ¬ Pm n) : ∃ q, Pm q ∧ q ∣ n ∧ q * q ≤ n := by
  have hx : ∃ x, 2 ≤ x ∧ x * x ≤ n ∧ x ∣ n := by
    apply Classical.byContradiction
    intro z
    exact hn ((Pm_iff h2).mpr fun x a b c => z ⟨x, a, b, c⟩)
  have key : ∀ (k : Nat) (x : Int), x ≤ k → 2 ≤ x → x * x ≤ n → x ∣ n → ∃ q, Pm q ∧ q ∣ n ∧ q * q ≤ n := by
    intro k
    induction k with
    | zero => intro x h1 h2; omega
    | succ k ih =>
      intro x h1 h2 h3 h4
      by_cases c : Pm x
      · exact ⟨x, c, h4, h3⟩
      · have : ∃ d, 2 ≤ d ∧ d < x ∧ d ∣ x := by
          apply Classical.byContradiction
          intro z
          exact c ⟨h2, fun d a b e => z ⟨d, a, b, e⟩⟩
        obtain ⟨d, d1, d2, d3⟩ := this
        have : d * d ≤ x * x := Int.mul_le_mul (by omega) (by omega) (by omega) (by omega)
        exact ih d (by push_cast at h1; omega) d1 (by omega) (Int.dvd_trans d3 h4)
  obtain ⟨x, a, b, c⟩ := hx
  exact key x.toNat x (by omega) a b c
theorem two_split : ∀ (n : Nat), 0 < n → ∃ j m, n = 2 ^ j * m ∧ m % 2 = 1 := by
  intro n
  induction n using Nat.strongRecOn with
  | ind n ih =>
    intro h
    by_cases c : n % 2 = 1
    · exact ⟨0, n, by simp, c⟩
    · obtain ⟨j, m, e, hm⟩ := ih (n / 2) (by omega) (by omega)
      refine ⟨j + 1, m, ?_, hm⟩
      rw [Nat.pow_succ, Nat.mul_comm (2 ^ j) 2, Nat.mul_assoc, ← e]; omega
theorem pow_dvd_sub {q a b : Int} (h : q ∣ a - b) : ∀ k : Nat, q ∣ a ^ k - b ^ k
  | 0 => by simp
  | k + 1 => by
    have ih := pow_dvd_sub h k
    have : a ^ (k + 1) - b ^ (k + 1) = (a ^ k - b ^ k) * a + b ^ k * (a - b) := by
      rw [Int.pow_succ, Int.pow_succ, Int.sub_mul, Int.mul_sub]; omega
    rw [this]
    exact Int.dvd_add (Int.dvd_trans ih (Int.dvd_mul_right ..)) (Int.dvd_trans h (Int.dvd_mul_left ..))
/-- a power of two as order -/
theorem order_two {q x : Int} {h p : Nat} (hq : Pm q) (hn : q = 2 * h + 1) (h0 : 0 < h) (hx : ¬ q ∣ x) (hm : q ∣ x ^ (2 ^ p) + 1) : (2 : Int) ^ (p + 1) ≤ q - 1 := by
  obtain ⟨j, m, e, hm1⟩ := two_split (2 * h) (by omega)
  have hf := hq.fermat hn h0 hx
  rcases Nat.lt_or_ge p j with c | c
  · have h1 : 2 ^ (p + 1) ≤ 2 ^ j := Nat.pow_le_pow_right (by decide) c
    have h2 : 2 ^ j * 1 ≤ 2 ^ j * m := Nat.mul_le_mul_left _ (by omega)
    have h3 : ((2 ^ (p + 1) : Nat) : Int) = (2 : Int) ^ (p + 1) := by rw [Int.natCast_pow]; rfl
    omega
  · exfalso
    obtain ⟨r, rfl⟩ : ∃ r, p = j + r := ⟨p - j, by omega⟩
    have h1 := pow_dvd_sub hf (2 ^ r)
    rw [Int.one_pow, ← Int.pow_mul, e] at h1
    have e2 : 2 ^ j * m * 2 ^ r = 2 ^ (j + r) * m := by rw [Nat.pow_add]; rw [Nat.mul_right_comm]
    rw [e2, Int.pow_mul] at h1
    have h2 : q ∣ x ^ (2 ^ (j + r)) - (-1) := by rw [Int.sub_neg]; exact hm
    have h3 := pow_dvd_sub h2 m
    rw [neg_one_pow, if_neg (by omega)] at h3
    have h4 := Int.dvd_sub h3 h1
    have e5 : (x ^ 2 ^ (j + r)) ^ m - -1 - ((x ^ 2 ^ (j + r)) ^ m - 1) = 2 := by omega
    rw [e5] at h4
    have := Int.le_of_dvd (by decide) h4
    have := hq.1; omega
/-- Proth -/
theorem proth {g f b : Int} {p : Nat} (hg : g = f * 2 ^ (p + 1) + 1) (f1 : 1 ≤ f) (f2 : f < 2 ^ (p + 1)) (hb : b ^ (g / 2).toNat % g = g - 1) : Pm g := by
  have p0 : (0 : Int) < 2 ^ p := by
    have := Int.pow_pos (n := 2) (m := p) (by decide); exact this
  have e1 : (2 : Int) ^ (p + 1) = 2 * 2 ^ p := by rw [Int.pow_succ]; omega
  obtain ⟨F, rfl⟩ : ∃ F : Nat, f = F := ⟨f.toNat, by omega⟩
  have gge : 3 ≤ g := by
    have : 1 * 2 ^ (p + 1) ≤ (F : Int) * 2 ^ (p + 1) := Int.mul_le_mul_of_nonneg_right f1 (by omega)
    omega
  have godd : g = 2 * (F * 2 ^ p) + 1 := by rw [hg, e1, Int.mul_left_comm]
  have ht : (g / 2).toNat = F * 2 ^ p := by
    have e : ((F * 2 ^ p : Nat) : Int) = (F : Int) * 2 ^ p := by push_cast; rfl
    omega
  rw [ht] at hb
  apply Classical.byContradiction
  intro hn
  obtain ⟨q, hq, hd, hl⟩ := prime_div (by omega) hn
  have q2 : q % 2 = 1 := by
    rcases (by omega : q % 2 = 0 ∨ q % 2 = 1) with z | z
    · exfalso
      have : 2 ∣ g := Int.dvd_trans (Int.dvd_of_emod_eq_zero z) hd
      omega
    · exact z
  obtain ⟨h, hh⟩ : ∃ h : Nat, q = 2 * h + 1 := ⟨(q / 2).toNat, by have := hq.1; omega⟩
  have h0 : 0 < h := by have := hq.1; omega
  have k1 : g ∣ b ^ (F * 2 ^ p) - (-1) := by
    rw [← emod_eq_iff, hb]
    have : (-1 : Int) = (g - 1) + g * (-1) := by omega
    rw [this, Int.add_mul_emod_self_left, Int.emod_eq_of_lt (by omega) (by omega)]
  have k2 : q ∣ (b ^ F) ^ (2 ^ p) + 1 := by
    rw [← Int.pow_mul]
    have := Int.dvd_trans hd k1
    rw [Int.sub_neg] at this; exact this
  have k3 : ¬ q ∣ b ^ F := fun z => by
    have : q ∣ (b ^ F) ^ (2 ^ p) := by
      obtain ⟨k, hk⟩ : ∃ k, 2 ^ p = k + 1 := ⟨2 ^ p - 1, by have := Nat.pow_pos (n := p) (show 0 < 2 by decide); omega⟩
      rw [hk, Int.pow_succ]; exact Int.dvd_trans z (Int.dvd_mul_left ..)
    have h1 := Int.dvd_sub k2 this
    have e : (b ^ F) ^ 2 ^ p + 1 - (b ^ F) ^ 2 ^ p = 1 := by omega
    rw [e] at h1
    have := Int.le_of_dvd (by decide) h1
    have := hq.1; omega
  have k4 := order_two hq hh h0 k3 k2
  have k5 : (2 ^ (p + 1) + 1) * (2 ^ (p + 1) + 1) ≤ q * q := Int.mul_le_mul (by omega) (by omega) (by omega) (by omega)
  have k6 : (F : Int) * 2 ^ (p + 1) ≤ 2 ^ (p + 1) * 2 ^ (p + 1) := Int.mul_le_mul_of_nonneg_right (by omega) (by omega)
  have k7 : ((2 : Int) ^ (p + 1) + 1) * (2 ^ (p + 1) + 1) = 2 ^ (p + 1) * 2 ^ (p + 1) + 2 * 2 ^ (p + 1) + 1 := by rw [Int.add_mul, Int.mul_add]; omega
  omega
end NT

end

section
set_option autoImplicit false
set_option autoImplicit false
/-! the sign by steps -/
namespace NT
def fl (b s : Int) : Int := if b % 8 = 3 ∨ b % 8 = 5 then -s else s
def tw (b : Int) : Nat → Int → Int → Int × Int
  | 0, t, s => (t, s)
  | k + 1, t, s => if t % 2 = 0 then tw b k (t / 2) (fl b s) else (t, s)
theorem tw_spec {b : Int} : ∀ (k : Nat) (t s : Int), 0 < t → t ≤ k → (tw b k t s).1 % 2 = 1 ∧ 0 < (tw b k t s).1 ∧ (tw b k t s).1 ≤ t
  | 0, t, s, h, hk => by omega
  | k + 1, t, s, h, hk => by
    unfold tw
    split
    · obtain ⟨a, c, d⟩ := tw_spec (b := b) k (t / 2) (fl b s) (by omega) (by omega)
      exact ⟨a, c, by omega⟩
    · exact ⟨by omega, by omega, by omega⟩
def rec4 (t b s : Int) : Int := if t % 4 = 3 ∧ b % 4 = 3 then -s else s
def sl : Nat → Int → Int → Int → Int × Int
  | 0, _, b, s => (s, b)
  | k + 1, t, b, s => if t = 0 then (s, b) else
    let w := tw b t.toNat t s
    sl k (b % w.1) w.1 (rec4 w.1 b w.2)
def sgn (a g : Int) : Int := let r := sl (g.toNat + 1) (a % g) g 1; if r.2 = 1 then r.1 else 0
theorem tw_J {b : Int} (hb : b % 2 = 1) (h0 : 0 < b) : ∀ (k : Nat) (t s : Int), (tw b k t s).2 * J (tw b k t s).1 b = s * J t b
  | 0, t, s => rfl
  | k + 1, t, s => by
    unfold tw
    split
    · rename_i c
      rw [tw_J hb h0 k (t / 2) (fl b s)]
      obtain ⟨h, hh⟩ : ∃ h : Nat, b = 2 * h + 1 := ⟨(b / 2).toNat, by omega⟩
      have e : J t b = J 2 b * J (t / 2) b := by
        rw [← J_mul hh]; congr 1; omega
      rw [e, J_two hh]
      unfold fl
      by_cases d : b % 8 = 3 ∨ b % 8 = 5
      · rw [if_pos d, if_pos d, Int.neg_mul, Int.neg_mul, Int.one_mul, Int.mul_neg]
      · rw [if_neg d, if_neg d, Int.one_mul]
    · rfl
theorem J_zero {b : Int} (h0 : 0 < b) : J 0 b = if b = 1 then 1 else 0 := by
  unfold J
  have : Int.gcd 0 b = b.natAbs := by simp
  rw [this]
  by_cases c : b = 1
  · subst c; rfl
  · rw [if_neg (by omega), if_neg c]
theorem sl_J : ∀ (k : Nat) (t b s : Int), 0 ≤ t → t < k → b % 2 = 1 → 0 < b → (if (sl k t b s).2 = 1 then (sl k t b s).1 else 0) = s * J t b
  | 0, t, b, s, h, hk, _, _ => by omega
  | k + 1, t, b, s, h, hk, hb, h0 => by
    by_cases c : t = 0
    · subst c
      rw [J_zero h0]
      simp only [sl, if_true]
      by_cases d : b = 1 <;> simp [d]
    · obtain ⟨w1, w2, w3⟩ := tw_spec (b := b) t.toNat t s (by omega) (by omega)
      have j := tw_J hb h0 t.toNat t s
      obtain ⟨t', ht'⟩ : ∃ t', t' = (tw b t.toNat t s).1 := ⟨_, rfl⟩
      obtain ⟨s', hs'⟩ : ∃ s', s' = (tw b t.toNat t s).2 := ⟨_, rfl⟩
      have e : sl (k + 1) t b s = sl k (b % t') t' (rec4 t' b s') := by rw [sl, if_neg c, ht', hs']
      rw [← ht'] at w1 w2 w3 j
      rw [← hs'] at j
      have h1 := Int.emod_nonneg b (by omega : t' ≠ 0)
      have h2 := Int.emod_lt_of_pos b w2
      rw [e, sl_J k (b % t') t' (rec4 t' b s') h1 (by omega) w1 w2, J_mod, ← j]
      obtain ⟨x, hx⟩ : ∃ h : Nat, b = 2 * h + 1 := ⟨(b / 2).toNat, by omega⟩
      obtain ⟨y, hy⟩ : ∃ h : Nat, t' = 2 * h + 1 := ⟨(t' / 2).toNat, by omega⟩
      rw [recip hx hy]
      unfold rec4
      by_cases d : t' % 4 = 3 ∧ b % 4 = 3
      · rw [if_pos d, if_pos d, Int.neg_mul, Int.mul_neg]
      · rw [if_neg d, if_neg d]
theorem sgn_J {a g : Int} (h0 : 0 < g) (hg : g % 2 = 1) : sgn a g = J a g := by
  have h1 := Int.emod_nonneg a (by omega : g ≠ 0)
  have h2 := Int.emod_lt_of_pos a h0
  have := sl_J (g.toNat + 1) (a % g) g 1 h1 (by omega) hg h0
  rw [J_mod, Int.one_mul] at this
  exact this
/-- by a prime the sign is the half power -/
theorem sgn_prime {a g : Int} (hp : Pm g) (h3 : 3 ≤ g) (hg : g % 2 = 1) : (sgn a g = 1 ↔ a ^ (g / 2).toNat % g = 1) ∧ (sgn a g = -1 ↔ a ^ (g / 2).toNat % g = g - 1) ∧ (sgn a g = 0 ↔ g ∣ a) := by
  have e := hp.euler (a := a) (h := (g / 2).toNat) (by omega) (by omega)
  rw [sgn_J (by omega) hg, e]
  have m1 : (-1) % g = g - 1 := by
    have : (-1 : Int) = (g - 1) + g * (-1) := by omega
    rw [this, Int.add_mul_emod_self_left, Int.emod_eq_of_lt (by omega) (by omega)]
  have m2 : (1 : Int) % g = 1 := Int.emod_eq_of_lt (by omega) (by omega)
  by_cases ha : g ∣ a
  · have j : J a g = 0 := by
      have h := J_mod a g
      rw [Int.emod_eq_zero_of_dvd ha, J_zero (by omega), if_neg (by omega)] at h
      exact h.symm
    rw [j]
    simp [ha]; omega
  · rcases hp.J_ne ha with j | j <;> rw [j]
    · rw [m2]; simp [ha]; omega
    · rw [m1]; simp [ha]; omega
end NT

end

section
set_option autoImplicit false
set_option autoImplicit false
namespace NT
/-- the least divisor from 2 on -/
def LD (n r : Int) : Prop := 2 ≤ r ∧ r ∣ n ∧ ∀ d, 2 ≤ d → d < r → ¬ d ∣ n
theorem LD.uniq {n r s : Int} (a : LD n r) (b : LD n s) : r = s := by
  rcases Int.lt_trichotomy r s with h | h | h
  · exact absurd a.2.1 (b.2.2 r a.1 h)
  · exact h
  · exact absurd b.2.1 (a.2.2 s b.1 h)
theorem LD.prime {n r : Int} (h : LD n r) : Pm r := ⟨h.1, fun d d1 d2 d3 => h.2.2 d d1 d2 (Int.dvd_trans d3 h.2.1)⟩
theorem LD.pmb {n r : Int} (h : LD n r) (h2 : 2 ≤ n) : pmb n = decide (r = n) := by
  by_cases c : r = n
  · subst c
    simp only [decide_true]
    exact pmb_iff.mpr h.prime
  · simp only [c, decide_false]
    cases e : NT.pmb n with
    | false => rfl
    | true =>
      have := pmb_iff.mp e
      have := Int.le_of_dvd (by omega) h.2.1
      exact absurd h.2.1 ((pmb_iff.mp e).2 r h.1 (by omega))
theorem LD.end {n p : Int} (h2 : 2 ≤ n) (hp : 2 ≤ p) (hn : n < p * p) (h : ∀ d, 2 ≤ d → d < p → ¬ d ∣ n) : LD n n := by
  refine ⟨h2, Int.dvd_refl n, fun d d1 d2 d3 => ?_⟩
  obtain ⟨e, he⟩ := d3
  have e0 : 0 < e := by
    rcases Int.lt_or_le 0 e with w | w
    · exact w
    · have : d * e ≤ 0 := Int.mul_nonpos_of_nonneg_of_nonpos (by omega) w
      omega
  have e1 : e ≠ 1 := fun z => by subst z; omega
  rcases Int.lt_or_le d p with w | w
  · exact h d d1 w ⟨e, he⟩
  · rcases Int.lt_or_le e p with v | v
    · exact h e (by omega) v ⟨d, by rw [Int.mul_comm]; exact he⟩
    · have : p * p ≤ d * e := Int.mul_le_mul w v (by omega) (by omega)
      omega
theorem dvd_of_two {d n : Int} (h : d % 2 = 0) (hn : n % 2 ≠ 0) : ¬ d ∣ n := fun z => by
  have : 2 ∣ n := Int.dvd_trans (Int.dvd_of_emod_eq_zero h) z
  omega
theorem dvd_of_three {d n : Int} (h : d % 3 = 0) (hn : n % 3 ≠ 0) : ¬ d ∣ n := fun z => by
  have : 3 ∣ n := Int.dvd_trans (Int.dvd_of_emod_eq_zero h) z
  omega
theorem not_dvd_of {d n : Int} (h : n % d ≠ 0) : ¬ d ∣ n := fun z => h (Int.emod_eq_zero_of_dvd z)
theorem ex_LD {n : Int} (h2 : 2 ≤ n) : ∃ r, LD n r := by
  have key : ∀ (k : Nat) (x : Int), x ≤ k → 2 ≤ x → x ∣ n → ∃ r, LD n r := by
    intro k
    induction k with
    | zero => intro x h1 h2; omega
    | succ k ih =>
      intro x h1 h2 h3
      by_cases c : ∃ d, 2 ≤ d ∧ d < x ∧ d ∣ n
      · obtain ⟨d, d1, d2, d3⟩ := c
        exact ih d (by push_cast at h1; omega) d1 d3
      · exact ⟨x, h2, h3, fun d a b e => c ⟨d, a, b, e⟩⟩
  exact key n.toNat n (by omega) h2 (Int.dvd_refl n)
end NT

end

section
set_option autoImplicit false
set_option autoImplicit false
namespace LW
open PySem PySem.Spec PyProof.Rows L2 DL
section
variable {S : Store} {v l h : Int} {d : D}
@[simp] theorem is_integer_int : m_is_integer [.int v] S = .ok (.bl true) S := by
  simp [m_is_integer, f_is_integer, N_is_integer, startE, gIsi, tyName, isTy]
theorem is_whole_int : m_is_whole [.int v, .int l, .int h] S = .ok (.bl (decide (l ≤ v) && decide (v ≤ h))) S := by
  simp [m_is_whole, f_is_whole, N_is_whole, startE]
  by_cases e : l ≤ v <;> simp [e]
theorem is_integer_no (h : tyName d = some "NoneType" ∨ tyName d = some "bool" ∨ tyName d = some "str" ∨ tyName d = some "tuple" ∨ tyName d = some "list") : m_is_integer [d] S = .ok (.bl false) S := by
  rcases h with h | h | h | h | h <;> simp [m_is_integer, f_is_integer, N_is_integer, startE, gIsi, isTy, h]
theorem is_whole_no {a b : D} (h : m_is_integer [d] S = .ok (.bl false) S) : m_is_whole [d, a, b] S = .ok (.bl false) S := by
  simp [m_is_whole, f_is_whole, N_is_whole, startE, h]
theorem need_whole_int (h1 : l ≤ v) (h2 : v ≤ h) : m_need_whole [.int v, .int l, .int h] S = .ok .non S := by
  simp [m_need_whole, f_need_whole, N_need_whole, startE, is_whole_int, h1, h2]
theorem power_in {a g : Int} {t : Nat} (hg : 0 < g) (gs : g.natAbs < 2 ^ 1000) (ht : t < 2 ^ 1000) : m_power_in [.int a, .int t, .int g] S = .ok (.int (a ^ t % g)) S := by
  have key := while_rule (c := fBool (fOp gGt (fRd 5) (fC (.int 0))) fuel) (b := (fSeq (fIfS (fBool (fOp gEq (fOp gMod (fRd 5) (fC (.int 2))) (fC (.int 1)))) (fSet 3 (fOp gMod (fOp gMul (fRd 3) (fRd 4)) (fRd 2))) fSkip) (fPar2 4 5 (fCons (fOp gMod (fOp gMul (fRd 4) (fRd 4)) (fRd 2)) (fCons (fOp gDiv (fRd 5) (fC (.int 2))) fNil)))) fuel)
    (Q := fun E S' => S' = S ∧ ∃ a' b d e f : Int, E = [some (.fz (.int a')), some (.fz (.int b)), some (.fz (.int g)), some (.fz (.int d)), some (.fz (.int e)), some (.fz (.int f))] ∧ d % g = a ^ t % g)
    (fun m E S' => S' = S ∧ ∃ (b d e : Int) (f : Nat), E = [some (.fz (.int a)), some (.fz (.int b)), some (.fz (.int g)), some (.fz (.int d)), some (.fz (.int e)), some (.fz (.int f))] ∧ d * e ^ f % g = a ^ t % g ∧ d.natAbs < 2 ^ 1000 ∧ e.natAbs < 2 ^ 1000 ∧ f < 2 ^ m)
    (by
      rintro m E S' ⟨rfl, b, d, e, f, rfl, h1, h2, h3, h4⟩
      by_cases hf : f = 0
      · subst hf
        refine .inl ⟨S', by simp, rfl, a, b, d, e, 0, rfl, by simpa using h1⟩
      · have hf : 0 < f := by omega
        have hm : m ≠ 0 := fun z => by subst z; simp at h4; omega
        obtain ⟨m, rfl⟩ := Nat.exists_eq_succ_of_ne_zero hm
        have mde := mulOk_s h2 h3 (by decide)
        have mee := mulOk_s h3 h3 (by decide)
        refine .inr ⟨S', [some (.fz (.int a)), some (.fz (.int b)), some (.fz (.int g)), some (.fz (.int (if (f : Int) % 2 = 1 then d * e % g else d))), some (.fz (.int (e * e % g))), some (.fz (.int (f / 2 : Nat)))], S', m, by simp [hf], ?_, by omega, rfl, b, _, _, f / 2, rfl, ?_, ?_, emod_abs hg gs, ?_⟩
        · by_cases e1 : (f : Int) % 2 = 1 <;> simp [o_mod hg, o_mod (show (0:Int) < 2 by decide), o_div (show (0:Int) < 2 by decide) (by decide), o_mul mde, o_mul mee, e1]
        · rw [pow_turn, h1]
        · split
          · exact emod_abs hg gs
          · exact h2
        · rw [Nat.pow_succ] at h4; omega)
    1000 fuel [some (.fz (.int a)), some (.fz (.int t)), some (.fz (.int g)), some (.fz (.int 1)), some (.fz (.int (a % g))), some (.fz (.int t))] S (by decide)
    ⟨rfl, t, 1, a % g, t, rfl, by rw [Int.one_mul, powm], Nat.one_lt_two_pow (by decide), emod_abs hg gs, ht⟩
  obtain ⟨E', S', k1, rfl, x1, x2, x3, x4, x5, rfl, k2⟩ := key
  simp [m_power_in, f_power_in, N_power_in, startE, o_mod hg, k1, k2]
theorem half_in {a g : Int} (hg : 0 < g) (gs : g.natAbs < 2 ^ 1000) : m_half_in [.int a, .int g] S = .ok (.int (a ^ (g / 2).toNat % g)) S := by
  have e : g / 2 = ((g / 2).toNat : Int) := by omega
  have := power_in (S := S) (a := a) (t := (g / 2).toNat) hg gs (by omega)
  rw [← e] at this
  simp [m_half_in, f_half_in, N_half_in, startE, o_div (show (0:Int) < 2 by decide) (by decide), this]
theorem rngD_succ {lo : Int} {k : Nat} : rngD lo (k + 1) = .int lo :: rngD (lo + 1) k := by
  unfold rngD
  rw [List.range_succ_eq_map]
  simp only [List.map_cons, List.map_map]
  congr 1
  · simp
  · apply List.map_congr_left
    intro x _
    simp only [Function.comp]
    congr 1; omega
theorem above_loop {a b : D} : ∀ (k : Nat) (lo f : Int) (x : Option Sl), ∃ E', forL (gN 3) (fSet 2 (fOp gMul (fC (.int 2)) (fRd 2)) fuel) (rngD lo k) [some (.fz a), some (.fz b), some (.fz (.int f)), x] S = .nx E' S ∧ E'[2]? = some (some (.fz (.int (f * 2 ^ k))))
  | 0, lo, f, x => by simp [rngD]
  | k + 1, lo, f, x => by
    have m2 : mulOk 2 f = true := mulOk_l (by decide)
    obtain ⟨E', h1, h2⟩ := above_loop (a := a) (b := b) k (lo + 1) (2 * f) (some (.fz (.int lo)))
    refine ⟨E', ?_, ?_⟩
    · rw [rngD_succ, e_forL_cons]
      simp [o_mul m2, h1]
    · rw [h2, Int.pow_succ]; congr 4; rw [Int.mul_comm 2 f, Int.mul_assoc]; congr 1; rw [Int.mul_comm]
theorem above_in {f p : Int} (h0 : 0 ≤ p) (h1 : p < 2 ^ 62) : m_above_in [.int f, .int p] S = .ok (.int (f * 2 ^ p.toNat + 1)) S := by
  obtain ⟨E', k1, k2⟩ := above_loop (a := .int f) (b := .int p) (S := S) p.toNat 0 f none
  have sr : smallR p = true := by unfold smallR; simp; omega
  simp [m_above_in, f_above_in, N_above_in, startE, rng1?, sr, k1, k2]
theorem law_above {f p : Int} (h0 : 0 ≤ p) (h1 : p < 2 ^ 62) : m__law_above [.int f, .int p] S = .ok (.int (f * 2 ^ p.toNat + 1)) S := by
  obtain ⟨E', k1, k2⟩ := above_loop (a := .int f) (b := .int p) (S := S) p.toNat 0 f none
  have sr : smallR p = true := by unfold smallR; simp; omega
  simp [m__law_above, f__law_above, N__law_above, startE, rng1?, sr, k1, k2]
/-- what a two shape is -/
def isSh (f p : Int) : Bool := decide (1 ≤ f ∧ f % 2 = 1 ∧ 1 ≤ p ∧ p ≤ 132 ∧ f < 2 ^ p.toNat ∧ f * 2 ^ p.toNat + 1 ≤ 10 ^ 40)
theorem fits {f p : Int} : m_fits_two_shape [.int f, .int p] S = .ok (.bl (isSh f p)) S := by
  by_cases c : 1 ≤ f ∧ f ≤ 10 ^ 40 ∧ f % 2 = 1 ∧ 1 ≤ p ∧ p ≤ 132
  · obtain ⟨c1, c2, c3, c4, c5⟩ := c
    have c2' : f ≤ 10000000000000000000000000000000000000000 := c2
    by_cases e : f < 2 ^ p.toNat <;>
    simp [m_fits_two_shape, f_fits_two_shape, N_fits_two_shape, startE, is_whole_int, o_mod (show (0:Int) < 2 by decide), c1, c2', c3, c4, c5, above_in (by omega : 0 ≤ p) (by omega : p < 2 ^ 62), isSh, e]
  · have r : isSh f p = false := by
      unfold isSh
      apply decide_eq_false
      rintro ⟨a1, a2, a3, a4, a5, a6⟩
      refine c ⟨a1, ?_, a2, a3, a4⟩
      have := pow2_pos p.toNat
      have : f * 1 ≤ f * 2 ^ p.toNat := Int.mul_le_mul_of_nonneg_left (by omega) (by omega)
      omega
    rw [r]
    have c' : ¬ (1 ≤ f ∧ f ≤ 10000000000000000000000000000000000000000 ∧ f % 2 = 1 ∧ 1 ≤ p ∧ p ≤ 132) := c
    by_cases c1 : 1 ≤ f ∧ f ≤ 10000000000000000000000000000000000000000
    · by_cases c2 : f % 2 = 1
      · have c3 : ¬ (1 ≤ p ∧ p ≤ 132) := fun z => c' ⟨c1.1, c1.2, c2, z.1, z.2⟩
        have c3' : (decide (1 ≤ p) && decide (p ≤ 132)) = false := by
          rw [← Bool.decide_and]; exact decide_eq_false c3
        simp [m_fits_two_shape, f_fits_two_shape, N_fits_two_shape, startE, is_whole_int, o_mod (show (0:Int) < 2 by decide), c1.1, c1.2, c2, c3']
      · have c2' : f % 2 = 0 := by omega
        simp [m_fits_two_shape, f_fits_two_shape, N_fits_two_shape, startE, is_whole_int, o_mod (show (0:Int) < 2 by decide), c1.1, c1.2, c2']
    · have c1' : (decide (1 ≤ f) && decide (f ≤ 10000000000000000000000000000000000000000)) = false := by
        rw [← Bool.decide_and]; exact decide_eq_false c1
      simp [m_fits_two_shape, f_fits_two_shape, N_fits_two_shape, startE, is_whole_int, c1']
end
/-! ### the draws -/
def Cup (S : Store) : Prop := ∃ c r : Int, S = [.lst [.int c, .int r]] ∧ 0 ≤ c ∧ 0 ≤ r
theorem law_cup {ns : List Int} (hn : ns.length ≤ 63) : ∃ S, m__law_cup [.scr ns] [] = .ok (.hd 0) S ∧ Cup S := by
  have hx : ∃ x : Int, atI (ns.map D.int ++ [D.int 0]) 0 = some (.int x) := by
    cases ns with
    | nil => exact ⟨0, rfl⟩
    | cons a l => exact ⟨a, by have : (0:Int) < (l.length:Int) + 1 + 1 := by omega
                               simp [atI, ixN, this]⟩
  obtain ⟨x, hx⟩ := hx
  have hl : gAdd (.lst (ns.map D.int)) (.lst [.int 0]) = some (.lst (ns.map D.int ++ [.int 0])) := by
    unfold gAdd
    simp only [List.length_map, List.length_cons, List.length_nil]
    rw [if_pos (by unfold sizeLine; omega)]
  have hi : gIx (.lst (ns.map D.int ++ [D.int 0])) (.int 0) = some (.int x) := hx
  have m283 : ∀ z : Int, mulOk z 283 = true := fun z => mulOk_r (by decide)
  have ha : ∃ y : Int, 0 ≤ y ∧ gAbs [.int x] = some (.int y) := ⟨_, by split <;> omega, rfl⟩
  obtain ⟨y, hy, ha⟩ := ha
  have hp : gPow (.int 10) (.int 18) = some (.int 1000000000000000000) := by rw [o_pow (by decide) (by decide) (by decide)]; rfl
  by_cases e : 1000000000000000000 ≤ y
  · refine ⟨_, by simp [m__law_cup, f__law_cup, N__law_cup, startE, gList, hl, hi, ha, hp, e, fRetH, gInt, o_mul (m283 y), o_div (show (0:Int) < 73 by decide) (by decide), o_mod (show (0:Int) < 2077503167 by decide)]; exact ⟨rfl, rfl⟩, _, _, rfl, by omega, by omega⟩
  · refine ⟨_, by simp [m__law_cup, f__law_cup, N__law_cup, startE, gList, hl, hi, ha, hp, e, fRetH, gInt, o_mul (m283 y), o_div (show (0:Int) < 73 by decide) (by decide), o_mod (show (0:Int) < 2077503167 by decide)]; exact ⟨rfl, rfl⟩, _, _, rfl, by omega, by omega⟩
theorem law_roll {S : Store} {k : Int} (h : Cup S) (h0 : 0 < k) (h1 : k < 2 ^ 64) : ∃ (x : Int) (S' : Store), m__law_roll [.hd 0, .int k] S = .ok (.int x) S' ∧ Cup S' ∧ 0 ≤ x ∧ x < k := by
  obtain ⟨c, r, rfl, hc, hr⟩ := h
  have x0 : ∀ a b : D, atI [a, b] 0 = some a := fun _ _ => rfl
  have x1 : ∀ a b : D, atI [a, b] 1 = some b := fun _ _ => rfl
  have i0 : ixN 2 0 = some 0 := rfl
  have i1 : ixN 2 1 = some 1 := rfl
  have hk : k.natAbs.log2 < 9000 := by
    have := log2_le (nat_lt_of (by omega) h1)
    omega
  by_cases e : 0 < c
  · refine ⟨c % k, _, by simp [m__law_roll, f__law_roll, N__law_roll, startE, fIxH, fSetIxH, x0, x1, i0, i1, e, gInt, o_mod h0, o_div h0 hk], ⟨c / k, r, rfl, Int.ediv_nonneg hc (by omega), hr⟩, Int.emod_nonneg _ (by omega), Int.emod_lt_of_pos _ h0⟩
  · let y := (r * 31051 + 7993) % 2147483543
    have ey : (r * 31051 + 7993) % 2147483543 = y := rfl
    have y0 : 0 ≤ y := Int.emod_nonneg _ (by decide)
    have y1 : y < 2147483543 := Int.emod_lt_of_pos _ (by decide)
    have m1 : mulOk r 31051 = true := mulOk_r (by decide)
    have m2 : mulOk y (y + 229) = true := mulOk_l (by omega)
    refine ⟨(y * (y + 229)) % 2147483587 / 821 % k, _, by simp [m__law_roll, f__law_roll, N__law_roll, startE, fIxH, fSetIxH, x0, x1, i0, i1, e, gInt, o_mod h0, o_mod (show (0:Int) < 2147483543 by decide), o_mod (show (0:Int) < 2147483587 by decide), o_div (show (0:Int) < 821 by decide) (by decide), o_mul m1, ey, o_mul m2], ⟨c, y, rfl, hc, y0⟩, Int.emod_nonneg _ (by omega), Int.emod_lt_of_pos _ h0⟩
/-! ### sorts, and likeness -/
def sortD : D → Int
  | .non => 0
  | .bl _ => 1
  | .int _ => 2
  | .str _ => 3
  | .tup _ => 4
  | .lst _ => 5
  | _ => 6
theorem law_sort {S : Store} {d : D} (h : tyName d ≠ none) : m__law_sort [d] S = .ok (.int (sortD d)) S := by
  cases d <;> first | (exfalso; exact h rfl) | simp [m__law_sort, f__law_sort, N__law_sort, startE, gIs, gIsi, tyName, isTy, sortD]
section
variable {S : Store} {l : List D} {i : Int} {b : Bool} {t : Str}
@[simp] theorem so_non : m__law_sort [.non] S = .ok (.int 0) S := law_sort (by decide)
@[simp] theorem so_bl : m__law_sort [.bl b] S = .ok (.int 1) S := law_sort (by simp [tyName])
@[simp] theorem so_int : m__law_sort [.int i] S = .ok (.int 2) S := law_sort (by simp [tyName])
@[simp] theorem so_str : m__law_sort [.str t] S = .ok (.int 3) S := law_sort (by simp [tyName])
@[simp] theorem so_tup : m__law_sort [.tup l] S = .ok (.int 4) S := law_sort (by simp [tyName])
@[simp] theorem so_lst : m__law_sort [.lst l] S = .ok (.int 5) S := law_sort (by simp [tyName])
end
theorem eq_non : gEq .non .non = some (.bl true) := rfl
theorem eq_str {t : Str} : gEq (.str t) (.str t) = some (.bl true) := by simp [gEq, eqD, scalD]
/-- data without references, of small depth -/
def plainD : Nat → D → Bool
  | _, .non => true
  | _, .bl _ => true
  | _, .int _ => true
  | _, .str _ => true
  | k + 1, .tup l => decide (l.length ≤ 1000000) && l.all (plainD k)
  | k + 1, .lst l => decide (l.length ≤ 1000000) && l.all (plainD k)
  | _, _ => false
theorem zip_none {S : Store} {mr : MF} {a b c : Option Sl} : ∀ {l : List D}, (∀ d ∈ l, ∀ S, mr [d, d] S = .ok (.bl true) S) →
    lcL (gT (gConss (gN 3) (gConss (gN 4) gNils))) (fNotT (fBool (fCall mr (fCons (fVar 3) (fCons (fVar 4) fNil)))) fuel) (fC (.int 1) fuel) (zipD l l) [a, b, c, none, none] S = .ok [] S
  | [], _ => rfl
  | d :: l, h => by
    have := zip_none (S := S) (a := a) (b := b) (c := c) (fun x hx => h x (List.mem_cons_of_mem _ hx))
    simp [zipD, lcL, h d (List.mem_cons_self ..), this]
theorem zip_short (l : List D) : (zipD l l).length = l.length := by rw [zipD_len]; omega
theorem eq_nil : gEq (.lst []) (.lst []) = some (.bl true) := by
  have h : SeqAt.shaped (PyData.list []) = true := by decide +kernel
  simp [gEq, eqD, scalD, deepD, D.py, D.pys, PyData.eqv, PyData.eqvAll, h]
theorem in45 {j : Int} : gIn (.int j) (.tup [.int 4, .int 5]) = some (.bl (4 == j || 5 == j)) := by
  simp [gIn, gInB, flatD, inF, eqF]
theorem like_self : ∀ {k : Nat} {d : D} {S : Store}, plainD k d = true → mk__law_like (k + 1) [d, d] S = .ok (.bl true) S := by
  intro k
  induction k with
  | zero =>
    intro d S h
    cases d <;> first | (cases h; done) | simp [mk__law_like, f__law_like, N__law_like, startE, in45, eq_non, eq_str]
  | succ k ih =>
    intro d S h
    rw [mk__law_like]
    cases d with
    | tup l =>
      simp only [plainD, Bool.and_eq_true, List.all_eq_true, decide_eq_true_eq] at h
      simp [f__law_like, N__law_like, startE, in45, gLen, zip?, wipeE, fLc, zip_short, h.1, zip_none (fun d hd S => ih (h.2 d hd)), eq_nil]
    | lst l =>
      simp only [plainD, Bool.and_eq_true, List.all_eq_true, decide_eq_true_eq] at h
      simp [f__law_like, N__law_like, startE, in45, gLen, zip?, wipeE, fLc, zip_short, h.1, zip_none (fun d hd S => ih (h.2 d hd)), eq_nil]
    | non => simp [f__law_like, N__law_like, startE, in45, eq_non, eq_str]
    | int i => simp [f__law_like, N__law_like, startE, in45, eq_non, eq_str]
    | bl i => simp [f__law_like, N__law_like, startE, in45, eq_non, eq_str]
    | str i => simp [f__law_like, N__law_like, startE, in45, eq_non, eq_str]
    | _ => cases h
theorem like {d : D} {S : Store} (h : plainD 7 d = true) : m__law_like [d, d] S = .ok (.bl true) S := like_self h
theorem law_power {S : Store} {a g : Int} {t : Nat} (hg : 0 < g) (gs : g.natAbs < 2 ^ 1000) (ht : t < 2 ^ 1000) : m__law_power [.int a, .int t, .int g] S = .ok (.int (a ^ t % g)) S := by
  have key := while_rule (c := fBool (fOp gGt (fRd 1) (fC (.int 0))) fuel) (b := (fSeq (fSet 3 (fIf (fBool (fOp gEq (fOp gMod (fCB gInt (fCons (fRd 1) fNil)) (fC (.int 2))) (fC (.int 1)))) (fOp gMod (fCB gInt (fCons (fOp gMul (fRd 3) (fRd 4)) fNil)) (fRd 2)) (fVar 3))) (fPar2 4 1 (fCons (fOp gMod (fCB gInt (fCons (fOp gMul (fRd 4) (fRd 4)) fNil)) (fRd 2)) (fCons (fCB gInt (fCons (fOp gDiv (fRd 1) (fC (.int 2))) fNil)) fNil)))) fuel)
    (Q := fun E S' => S' = S ∧ ∃ a' b d e : Int, E = [some (.fz (.int a')), some (.fz (.int b)), some (.fz (.int g)), some (.fz (.int d)), some (.fz (.int e))] ∧ d % g = a ^ t % g)
    (fun m E S' => S' = S ∧ ∃ (d e : Int) (f : Nat), E = [some (.fz (.int a)), some (.fz (.int f)), some (.fz (.int g)), some (.fz (.int d)), some (.fz (.int e))] ∧ d * e ^ f % g = a ^ t % g ∧ d.natAbs < 2 ^ 1000 ∧ e.natAbs < 2 ^ 1000 ∧ f < 2 ^ m)
    (by
      rintro m E S' ⟨rfl, d, e, f, rfl, h1, h2, h3, h4⟩
      by_cases hf : f = 0
      · subst hf
        refine .inl ⟨S', by simp, rfl, a, 0, d, e, rfl, by simpa using h1⟩
      · have hf : 0 < f := by omega
        have hm : m ≠ 0 := fun z => by subst z; simp at h4; omega
        obtain ⟨m, rfl⟩ := Nat.exists_eq_succ_of_ne_zero hm
        have mde := mulOk_s h2 h3 (by decide)
        have mee := mulOk_s h3 h3 (by decide)
        refine .inr ⟨S', [some (.fz (.int a)), some (.fz (.int (f / 2 : Nat))), some (.fz (.int g)), some (.fz (.int (if (f : Int) % 2 = 1 then d * e % g else d))), some (.fz (.int (e * e % g)))], S', m, by simp [hf], ?_, by omega, rfl, _, _, f / 2, rfl, ?_, ?_, emod_abs hg gs, ?_⟩
        · by_cases e1 : (f : Int) % 2 = 1 <;> simp [gInt, o_mod hg, o_mod (show (0:Int) < 2 by decide), o_div (show (0:Int) < 2 by decide) (by decide), o_mul mde, o_mul mee, e1]
        · rw [pow_turn, h1]
        · split
          · exact emod_abs hg gs
          · exact h2
        · rw [Nat.pow_succ] at h4; omega)
    1000 fuel [some (.fz (.int a)), some (.fz (.int t)), some (.fz (.int g)), some (.fz (.int 1)), some (.fz (.int (a % g)))] S (by decide)
    ⟨rfl, 1, a % g, t, rfl, by rw [Int.one_mul, powm], Nat.one_lt_two_pow (by decide), emod_abs hg gs, ht⟩
  obtain ⟨E', S', k1, rfl, x1, x2, x3, x4, rfl, k2⟩ := key
  simp [m__law_power, f__law_power, N__law_power, startE, gInt, o_mod hg, k1, k2]
theorem law_half {S : Store} {b g : Int} (g1 : 3 ≤ g) (g2 : g ≤ 10 ^ 40) (go : g % 2 = 1) : m__law_half [.int b, .int g] S = .ok (.int (b ^ (g / 2).toNat % g)) S := by
  have hg : 0 < g := by omega
  have e : (g - 1) / 2 = ((g / 2).toNat : Int) := by omega
  have h10 : (10:Int)^40 < 2 ^ 1000 := by decide +kernel
  have h := law_power (S := S) (a := b % g) (g := g) (t := (g / 2).toNat) hg (nat_lt_of (by omega) (by omega)) (by have := nat_lt_of (a := g) (k := 1000) (by omega) (by omega); omega)
  have e2 : (((g / 2).toNat : Nat) : Int) = (g - 1) / 2 := e.symm
  rw [e2] at h
  simp [m__law_half, f__law_half, N__law_half, startE, gInt, o_mod hg, o_div (show (0:Int) < 2 by decide) (by decide), h, powm]
theorem isSh_of {f : Int} {p : Nat} (f1 : 1 ≤ f) (f2 : f % 2 = 1) (f3 : f < 2 ^ p) (f4 : f < 2 ^ 21) (p1 : 1 ≤ p) (p2 : p ≤ 110) : isSh f p = true := by
  unfold isSh
  apply decide_eq_true
  have h1 := pow2_mono p2
  have h2 := pow2_pos p
  have h3 : f * 2 ^ p ≤ 2 ^ 21 * 2 ^ p := Int.mul_le_mul_of_nonneg_right (by omega) (by omega)
  have h4 : (2:Int) ^ 21 * 2 ^ p ≤ 2 ^ 21 * 2 ^ 110 := Int.mul_le_mul_of_nonneg_left h1 (by omega)
  refine ⟨f1, f2, by omega, by omega, by simpa using f3, ?_⟩
  have e : ((p : Int)).toNat = p := by omega
  rw [e]; omega
theorem shape_down {S2 : Store} {k z : Int} {p : Nat} (hp1 : 1 ≤ p) (hp2 : p ≤ 110) (z0 : 0 ≤ z) (z1 : z < 1000000) : ∃ E' S', whileL (fBool (fOp gGe (fRd 3) (fOp gSub (fCall m__law_above (fCons (fC (.int 1)) (fCons (fVar 2) fNil))) (fC (.int 1)))) fuel) (fSet 3 (fOp gAdd (fOp gMul (fCB gInt (fCons (fOp gDiv (fRd 3) (fC (.int 4))) fNil)) (fC (.int 2))) (fC (.int 1))) fuel) fuel [some (.fz (.hd 0)), some (.fz (.int k)), some (.fz (.int p)), some (.fz (.int (1 + 2 * z)))] S2 = .nx E' S' ∧ S' = S2 ∧ ∃ f : Int, E' = [some (.fz (.hd 0)), some (.fz (.int k)), some (.fz (.int p)), some (.fz (.int f))] ∧ isSh f p = true := by
  have pp := pow2_mono hp1
  have hA : ∀ S, m__law_above [.int 1, .int p] S = .ok (.int (2 ^ p + 1)) S := fun S => by rw [law_above (by omega) (by omega)]; simp
  obtain ⟨P, hP⟩ : ∃ P : Int, P = 2 ^ p := ⟨_, rfl⟩
  rw [← hP] at hA
  have m2r : ∀ z : Int, mulOk z 2 = true := fun z => mulOk_r (by decide)
  refine while_rule (c := fBool (fOp gGe (fRd 3) (fOp gSub (fCall m__law_above (fCons (fC (.int 1)) (fCons (fVar 2) fNil))) (fC (.int 1)))) fuel) (b := fSet 3 (fOp gAdd (fOp gMul (fCB gInt (fCons (fOp gDiv (fRd 3) (fC (.int 4))) fNil)) (fC (.int 2))) (fC (.int 1))) fuel)
    (Q := fun E S' => S' = S2 ∧ ∃ f : Int, E = [some (.fz (.hd 0)), some (.fz (.int k)), some (.fz (.int p)), some (.fz (.int f))] ∧ isSh f p = true)
    (fun m E S' => S' = S2 ∧ ∃ f : Nat, E = [some (.fz (.hd 0)), some (.fz (.int k)), some (.fz (.int p)), some (.fz (.int f))] ∧ f % 2 = 1 ∧ f < 2 ^ 21 ∧ f ≤ m)
    (by
      rintro m E S' ⟨rfl, f, rfl, h1, h2, h3⟩
      by_cases e : P ≤ f
      · refine .inr ⟨S', [some (.fz (.hd 0)), some (.fz (.int k)), some (.fz (.int p)), some (.fz (.int (f / 4 * 2 + 1 : Nat)))], S', f / 4 * 2 + 1, by simp [hA, e], by simp [gInt, o_mul (m2r _), o_div (show (0:Int) < 4 by decide) (by decide)], by omega, rfl, _, rfl, by omega, by omega, by omega⟩
      · refine .inl ⟨S', by simp [hA, e], rfl, f, rfl, isSh_of (by omega) (by omega) (by omega) (by omega) hp1 hp2⟩)
    (1 + 2 * z).toNat fuel [some (.fz (.hd 0)), some (.fz (.int k)), some (.fz (.int p)), some (.fz (.int (1 + 2 * z)))] S2 (by unfold fuel; omega)
    ⟨rfl, (1 + 2 * z).toNat, by rw [Int.toNat_of_nonneg (by omega : 0 ≤ 1 + 2 * z)], by omega, by omega, by omega⟩
theorem law_shape {S : Store} {k : Int} (h : Cup S) (k0 : 0 < k) (k1 : k ≤ 110) : ∃ (f : Int) (p : Nat) (S' : Store), m__law_shape [.hd 0, .int k] S = .ok (.tup [.int f, .int p]) S' ∧ Cup S' ∧ isSh f p = true ∧ (p : Int) ≤ k := by
  obtain ⟨x, S1, r1, c1, x0, x1⟩ := law_roll h k0 (by omega)
  obtain ⟨p, hp⟩ : ∃ p : Nat, 1 + x = p := ⟨(1 + x).toNat, by omega⟩
  have hp1 : 1 ≤ p := by omega
  have hp2 : p ≤ 110 := by omega
  have pp := pow2_mono hp1
  have hA : ∀ S, m__law_above [.int 1, .int p] S = .ok (.int (2 ^ p + 1)) S := fun S => by rw [law_above (by omega) (by omega)]; simp
  obtain ⟨P, hP⟩ : ∃ P : Int, P = 2 ^ p := ⟨_, rfl⟩
  rw [← hP] at hA
  have hmin : ∃ y : Int, gMin2 [.int 1000000, .int P] = some (.int y) ∧ 0 < y ∧ y ≤ 1000000 := ⟨_, rfl, by split <;> omega, by split <;> omega⟩
  obtain ⟨y, hy, y0, y1⟩ := hmin
  obtain ⟨z, S2, r2, c2, z0, z1⟩ := law_roll c1 y0 (by omega)
  have h6 : gPow (.int 10) (.int 6) = some (.int 1000000) := by rw [o_pow (by decide) (by decide) (by decide)]; rfl
  have m2z : ∀ z : Int, mulOk 2 z = true := fun z => mulOk_l (by decide)
  have m2r : ∀ z : Int, mulOk z 2 = true := fun z => mulOk_r (by decide)
  have key := shape_down (S2 := S2) (k := k) hp1 hp2 z0 (by omega : z < 1000000)
  obtain ⟨E', S', k1, rfl, f, rfl, k2⟩ := key
  refine ⟨f, p, S', ?_, c2, k2, by omega⟩
  simp [m__law_shape, f__law_shape, N__law_shape, startE, r1, hp, hA, h6, hy, r2, o_mul (m2z _), k1]
theorem plain_bl {b : Bool} : plainD 7 (.bl b) = true := rfl
theorem plain_int {b : Int} : plainD 7 (.int b) = true := rfl
theorem isSh_great {f : Int} {p : Int} (h : isSh f p = true) : 1 ≤ f ∧ f % 2 = 1 ∧ 1 ≤ p ∧ p ≤ 132 ∧ 3 ≤ f * 2 ^ p.toNat + 1 ∧ f * 2 ^ p.toNat + 1 ≤ 10 ^ 40 ∧ (f * 2 ^ p.toNat + 1) % 2 = 1 := by
  unfold isSh at h
  obtain ⟨a1, a2, a3, a4, a5, a6⟩ := of_decide_eq_true h
  obtain ⟨q, hq⟩ : ∃ q, p.toNat = q + 1 := ⟨p.toNat - 1, by omega⟩
  have e : f * 2 ^ p.toNat = 2 * (f * 2 ^ q) := by rw [hq, Int.pow_succ, Int.mul_comm (2 ^ q) 2, ← Int.mul_assoc, ← Int.mul_assoc, Int.mul_comm f 2]
  have q0 := pow2_pos q
  have : 1 * 2 ^ q ≤ f * 2 ^ q := Int.mul_le_mul_of_nonneg_right a1 (by omega)
  exact ⟨a1, a2, a3, a4, by omega, a6, by omega⟩
end LW

end

section
set_option autoImplicit false
set_option autoImplicit false
namespace LW
open PySem PySem.Spec PyProof.Rows L2 DL NT
/-! ### signs -/
theorem in35 {j : Int} : gIn (.int j) (.tup [.int 3, .int 5]) = some (.bl (decide (j = 3 ∨ j = 5))) := by
  have h : gIn (.int j) (.tup [.int 3, .int 5]) = some (.bl (3 == j || 5 == j)) := by simp [gIn, gInB, flatD, inF, eqF]
  rw [h]
  by_cases a : j = 3
  · subst a; rfl
  · by_cases c : j = 5
    · subst c; rfl
    · have a' : ¬ 3 = j := fun z => a z.symm
      have c' : ¬ 5 = j := fun z => c z.symm
      simp [a, c, a', c']
/-- the inner loop of the program's sign -/
theorem tw_loop {S : Store} {x0 x1 : Option Sl} {b : Int} : ∀ (k : Nat) (t s : Int) (m : Nat), 0 < t → t ≤ k → k < m →
    whileL (fBool (fOp gEq (fOp gMod (fRd 3) (fC (.int 2))) (fC (.int 0))) fuel) (fSeq (fSet 3 (fOp gDiv (fRd 3) (fC (.int 2)))) (fSet 2 (fIf (fBool (fOp gIn (fOp gMod (fRd 4) (fC (.int 8))) (fTup (fCons (fC (.int 3)) (fCons (fC (.int 5)) fNil))))) (fUn gNeg (fVar 2)) (fVar 2))) fuel) m
      [x0, x1, some (.fz (.int s)), some (.fz (.int t)), some (.fz (.int b))] S = .nx [x0, x1, some (.fz (.int (tw b k t s).2)), some (.fz (.int (tw b k t s).1)), some (.fz (.int b))] S
  | 0, t, s, m, h, hk, _ => by omega
  | k + 1, t, s, m + 1, h, hk, hm => by
    by_cases c : t % 2 = 0
    · have ih := tw_loop (S := S) (x0 := x0) (x1 := x1) (b := b) k (t / 2) (fl b s) m (by omega) (by omega) (by omega)
      by_cases d : b % 8 = 3 ∨ b % 8 = 5 <;> simp [fl, d] at ih <;> simp [whileL, tw, c, fl, d, o_mod (show (0:Int) < 2 by decide), o_mod (show (0:Int) < 8 by decide), o_div (show (0:Int) < 2 by decide) (by decide), in35, ih]
    · simp [whileL, tw, c, o_mod (show (0:Int) < 2 by decide)]
/-- the inner loop of the law's sign -/
theorem tw_loopL {S : Store} {x0 x1 : Option Sl} {b : Int} : ∀ (k : Nat) (t s : Int) (m : Nat), 0 < t → t ≤ k → k < m →
    whileL (fBool (fOp gEq (fOp gMod (fCB gInt (fCons (fRd 3) fNil)) (fC (.int 2))) (fC (.int 0))) fuel) (fPar2 3 2 (fCons (fCB gInt (fCons (fOp gDiv (fRd 3) (fC (.int 2))) fNil)) (fCons (fIf (fBool (fOp gIn (fOp gMod (fCB gInt (fCons (fRd 4) fNil)) (fC (.int 8))) (fTup (fCons (fC (.int 3)) (fCons (fC (.int 5)) fNil))))) (fOp gSub (fC (.int 0)) (fRd 2)) (fVar 2)) fNil)) fuel) m
      [x0, x1, some (.fz (.int s)), some (.fz (.int t)), some (.fz (.int b))] S = .nx [x0, x1, some (.fz (.int (tw b k t s).2)), some (.fz (.int (tw b k t s).1)), some (.fz (.int b))] S
  | 0, t, s, m, h, hk, _ => by omega
  | k + 1, t, s, m + 1, h, hk, hm => by
    by_cases c : t % 2 = 0
    · have ih := tw_loopL (S := S) (x0 := x0) (x1 := x1) (b := b) k (t / 2) (fl b s) m (by omega) (by omega) (by omega)
      by_cases d : b % 8 = 3 ∨ b % 8 = 5 <;> simp [fl, d] at ih <;> simp [whileL, tw, c, fl, d, gInt, o_mod (show (0:Int) < 2 by decide), o_mod (show (0:Int) < 8 by decide), o_div (show (0:Int) < 2 by decide) (by decide), in35, ih]
    · simp [whileL, tw, c, gInt, o_mod (show (0:Int) < 2 by decide)]
theorem sl_loop {S : Store} {x0 x1 : Option Sl} : ∀ (k : Nat) (t b s : Int) (m : Nat), 0 ≤ t → t < k → k < m → 0 < b → t < 2 ^ 500 →
    whileL (fBool (fOp gNe (fRd 3) (fC (.int 0))) fuel) ((fSeq (fWhile (fBool (fOp gEq (fOp gMod (fRd 3) (fC (.int 2))) (fC (.int 0)))) (fSeq (fSet 3 (fOp gDiv (fRd 3) (fC (.int 2)))) (fSet 2 (fIf (fBool (fOp gIn (fOp gMod (fRd 4) (fC (.int 8))) (fTup (fCons (fC (.int 3)) (fCons (fC (.int 5)) fNil))))) (fUn gNeg (fVar 2)) (fVar 2))))) (fSeq (fSet 2 (fIf (fAndT (fBool (fOp gEq (fOp gMod (fRd 3) (fC (.int 4))) (fC (.int 3)))) (fBool (fOp gEq (fOp gMod (fRd 4) (fC (.int 4))) (fC (.int 3))))) (fUn gNeg (fVar 2)) (fVar 2))) (fPar2 3 4 (fCons (fOp gMod (fRd 4) (fRd 3)) (fCons (fVar 3) fNil))))) fuel) m
      [x0, x1, some (.fz (.int s)), some (.fz (.int t)), some (.fz (.int b))] S = .nx [x0, x1, some (.fz (.int (sl k t b s).1)), some (.fz (.int 0)), some (.fz (.int (sl k t b s).2))] S
  | 0, t, b, s, m, h, hk, _, _, _ => by omega
  | k + 1, t, b, s, m + 1, h, hk, hm, hb, ht => by
    by_cases c : t = 0
    · subst c; simp [whileL, sl]
    · obtain ⟨w1, w2, w3⟩ := tw_spec (b := b) t.toNat t s (by omega) (by omega)
      have in1 := tw_loop (S := S) (x0 := x0) (x1 := x1) (b := b) t.toNat t s fuel (by omega) (by omega) (by unfold fuel; omega)
      obtain ⟨t', ht'⟩ : ∃ t', t' = (tw b t.toNat t s).1 := ⟨_, rfl⟩
      obtain ⟨s', hs'⟩ : ∃ s', s' = (tw b t.toNat t s).2 := ⟨_, rfl⟩
      rw [← ht', ← hs'] at in1
      rw [← ht'] at w1 w2 w3
      have h1 := Int.emod_nonneg b (by omega : t' ≠ 0)
      have h2 := Int.emod_lt_of_pos b w2
      have ih := sl_loop (S := S) (x0 := x0) (x1 := x1) k (b % t') t' (rec4 t' b s') m h1 (by omega) (by omega) w2 (by omega)
      have e : sl (k + 1) t b s = sl k (b % t') t' (rec4 t' b s') := by rw [sl, if_neg c, ht', hs']
      rw [e]
      by_cases d1 : t' % 4 = 3 <;> by_cases d2 : b % 4 = 3 <;> simp [rec4, d1, d2] at ih <;> simp [whileL, c, in1, o_mod (show (0:Int) < 4 by decide), o_mod w2, d1, d2, rec4, ih]
theorem sl_loopL {S : Store} {x0 x1 : Option Sl} : ∀ (k : Nat) (t b s : Int) (m : Nat), 0 ≤ t → t < k → k < m → 0 < b → t < 2 ^ 500 →
    whileL (fBool (fOp gNe (fRd 3) (fC (.int 0))) fuel) ((fSeq (fWhile (fBool (fOp gEq (fOp gMod (fCB gInt (fCons (fRd 3) fNil)) (fC (.int 2))) (fC (.int 0)))) (fPar2 3 2 (fCons (fCB gInt (fCons (fOp gDiv (fRd 3) (fC (.int 2))) fNil)) (fCons (fIf (fBool (fOp gIn (fOp gMod (fCB gInt (fCons (fRd 4) fNil)) (fC (.int 8))) (fTup (fCons (fC (.int 3)) (fCons (fC (.int 5)) fNil))))) (fOp gSub (fC (.int 0)) (fRd 2)) (fVar 2)) fNil)))) (fSeq (fSet 2 (fIf (fAndT (fBool (fOp gEq (fOp gMod (fCB gInt (fCons (fRd 3) fNil)) (fC (.int 4))) (fC (.int 3)))) (fBool (fOp gEq (fOp gMod (fCB gInt (fCons (fRd 4) fNil)) (fC (.int 4))) (fC (.int 3))))) (fOp gSub (fC (.int 0)) (fRd 2)) (fVar 2))) (fPar2 3 4 (fCons (fOp gMod (fCB gInt (fCons (fRd 4) fNil)) (fRd 3)) (fCons (fVar 3) fNil))))) fuel) m
      [x0, x1, some (.fz (.int s)), some (.fz (.int t)), some (.fz (.int b))] S = .nx [x0, x1, some (.fz (.int (sl k t b s).1)), some (.fz (.int 0)), some (.fz (.int (sl k t b s).2))] S
  | 0, t, b, s, m, h, hk, _, _, _ => by omega
  | k + 1, t, b, s, m + 1, h, hk, hm, hb, ht => by
    by_cases c : t = 0
    · subst c; simp [whileL, sl]
    · obtain ⟨w1, w2, w3⟩ := tw_spec (b := b) t.toNat t s (by omega) (by omega)
      have in1 := tw_loopL (S := S) (x0 := x0) (x1 := x1) (b := b) t.toNat t s fuel (by omega) (by omega) (by unfold fuel; omega)
      obtain ⟨t', ht'⟩ : ∃ t', t' = (tw b t.toNat t s).1 := ⟨_, rfl⟩
      obtain ⟨s', hs'⟩ : ∃ s', s' = (tw b t.toNat t s).2 := ⟨_, rfl⟩
      rw [← ht', ← hs'] at in1
      rw [← ht'] at w1 w2 w3
      have h1 := Int.emod_nonneg b (by omega : t' ≠ 0)
      have h2 := Int.emod_lt_of_pos b w2
      have ih := sl_loopL (S := S) (x0 := x0) (x1 := x1) k (b % t') t' (rec4 t' b s') m h1 (by omega) (by omega) w2 (by omega)
      have e : sl (k + 1) t b s = sl k (b % t') t' (rec4 t' b s') := by rw [sl, if_neg c, ht', hs']
      rw [e]
      by_cases d1 : t' % 4 = 3 <;> by_cases d2 : b % 4 = 3 <;> simp [rec4, d1, d2] at ih <;> simp [whileL, c, gInt, in1, o_mod (show (0:Int) < 4 by decide), o_mod w2, d1, d2, rec4, ih]
theorem sign_in {S : Store} {a g : Int} (hg : 0 < g) (hb : g < 2 ^ 500) : m_sign_in [.int a, .int g] S = .ok (.int (sgn a g)) S := by
  have h1 := Int.emod_nonneg a (by omega : g ≠ 0)
  have h2 := Int.emod_lt_of_pos a hg
  have l := sl_loop (S := S) (x0 := some (.fz (.int a))) (x1 := some (.fz (.int g))) (g.toNat + 1) (a % g) g 1 fuel h1 (by omega) (by unfold fuel; omega) hg (by omega)
  unfold sgn
  by_cases c : (sl (g.toNat + 1) (a % g) g 1).2 = 1 <;> simp [m_sign_in, f_sign_in, N_sign_in, startE, o_mod hg, l, c]
theorem law_sign {S : Store} {a g : Int} (hg : 0 < g) (hb : g < 2 ^ 500) : m__law_sign [.int a, .int g] S = .ok (.int (sgn a g)) S := by
  have h1 := Int.emod_nonneg a (by omega : g ≠ 0)
  have h2 := Int.emod_lt_of_pos a hg
  have l := sl_loopL (S := S) (x0 := some (.fz (.int a))) (x1 := some (.fz (.int g))) (g.toNat + 1) (a % g) g 1 fuel h1 (by omega) (by unfold fuel; omega) hg (by omega)
  unfold sgn
  by_cases c : (sl (g.toNat + 1) (a % g) g 1).2 = 1 <;> simp [m__law_sign, f__law_sign, N__law_sign, startE, gInt, o_mod hg, l, c]
theorem sgn_self {g : Int} (hg : 1 < g) : sgn g g = 0 := by
  have : g ≠ 1 := by omega
  simp [sgn, sl, this]
end LW

end

section
set_option autoImplicit false
set_option autoImplicit false
namespace LW
open PySem PySem.Spec PyProof.Rows L2 DL NT
theorem square_loop {S : Store} {n : Int} : ∀ (k : Nat) (lo hi : Int) (x : Option Sl) (m : Nat), 1 ≤ lo → lo < hi → hi - lo ≤ 2 ^ k → hi < 2 ^ 1000 → k < m → lo * lo ≤ n → n < hi * hi → ∃ lo' x', 1 ≤ lo' ∧ lo' * lo' ≤ n ∧ n < (lo' + 1) * (lo' + 1) ∧ lo' < 2 ^ 1000 ∧
    whileL (fBool (fOp gGt (fOp gSub (fRd 2) (fRd 1)) (fC (.int 1))) fuel) (fSeq (fSet 3 (fOp gDiv (fOp gAdd (fRd 1) (fRd 2)) (fC (.int 2)))) (fIfS (fBool (fOp gLe (fOp gMul (fRd 3) (fRd 3)) (fRd 0))) (fSet 1 (fVar 3)) (fSet 2 (fVar 3))) fuel) m
      [some (.fz (.int n)), some (.fz (.int lo)), some (.fz (.int hi)), x] S = .nx [some (.fz (.int n)), some (.fz (.int lo')), some (.fz (.int (lo' + 1))), x'] S
  | k, lo, hi, x, m + 1, h1, h2, h3, h4, hm, h5, h6 => by
    by_cases c : 1 < hi - lo
    · cases k with
      | zero => simp at h3; omega
      | succ k =>
        have h3' : hi - lo ≤ 2 * 2 ^ k := by rw [Int.pow_succ] at h3; omega
        obtain ⟨y, hy⟩ : ∃ y, y = (lo + hi) / 2 := ⟨_, rfl⟩
        have my : mulOk y y = true := mulOk_s (nat_lt_of (a := y) (k := 1000) (by omega) (by omega)) (nat_lt_of (a := y) (k := 1000) (by omega) (by omega)) (by decide)
        by_cases c2 : y * y ≤ n
        · obtain ⟨lo', x', a, b, d, e, f⟩ := square_loop (S := S) k y hi (some (.fz (.int y))) m (by omega) (by omega) (by omega) h4 (by omega) c2 h6
          refine ⟨lo', x', a, b, d, e, ?_⟩
          simp [whileL, c, o_div (show (0:Int) < 2 by decide) (by decide), ← hy, o_mul my, c2]
          exact f
        · obtain ⟨lo', x', a, b, d, e, f⟩ := square_loop (S := S) k lo y (some (.fz (.int y))) m (by omega) (by omega) (by omega) (by omega) (by omega) h5 (by omega)
          refine ⟨lo', x', a, b, d, e, ?_⟩
          simp [whileL, c, o_div (show (0:Int) < 2 by decide) (by decide), ← hy, o_mul my, c2]
          exact f
    · have e : hi = lo + 1 := by omega
      subst e
      exact ⟨lo, x, h1, h5, h6, by omega, by simp [whileL, c]⟩
def isSq (n : Int) : Prop := ∃ q : Int, 0 ≤ q ∧ q * q = n
theorem is_square {n : Int} (hn : 1 ≤ n) (hb : n < 2 ^ 900) : ∃ b, (∀ S, m_is_square_number [.int n] S = .ok (.bl b) S) ∧ (b = true ↔ isSq n) := by
  have hb2 : (2:Int) ^ 900 < 2 ^ 1000 := by decide +kernel
  have hh : n < (n + 1) * (n + 1) := by
    have : 1 * (n + 1) ≤ (n + 1) * (n + 1) := Int.mul_le_mul_of_nonneg_right (by omega) (by omega)
    omega
  have l := fun S => square_loop (S := S) (n := n) 900 1 (n + 1) none fuel (by decide) (by omega) (by omega) (by omega) (by unfold fuel; decide) (by omega) hh
  have key : ∀ S, ∃ b, m_is_square_number [.int n] S = .ok (.bl b) S ∧ (b = true ↔ isSq n) := fun S => by
    obtain ⟨lo, x, a1, a2, a3, a4, a5⟩ := l S
    have my : mulOk lo lo = true := mulOk_s (nat_lt_of (a := lo) (k := 1000) (by omega) (by omega)) (nat_lt_of (a := lo) (k := 1000) (by omega) (by omega)) (by decide)
    refine ⟨decide (lo * lo = n), by simp [m_is_square_number, f_is_square_number, N_is_square_number, startE, a5, o_mul my], ?_⟩
    constructor
    · intro h; exact ⟨lo, by omega, of_decide_eq_true h⟩
    · rintro ⟨q, q0, e⟩
      apply decide_eq_true
      rcases Int.lt_or_le lo (n + 1) with _ | _
      · apply Classical.byContradiction
        intro z
        exact sq_not (a := lo) (F := n) (by omega) a3 (by omega) q q0 e
      · apply Classical.byContradiction
        intro z
        exact sq_not (a := lo) (F := n) (by omega) a3 (by omega) q q0 e
  by_cases h : isSq n
  · refine ⟨true, fun S => ?_, by simp [h]⟩
    obtain ⟨b, k1, k2⟩ := key S
    rw [k1, k2.mpr h]
  · refine ⟨false, fun S => ?_, by simp [h]⟩
    obtain ⟨b, k1, k2⟩ := key S
    have : b = false := by cases b with
      | false => rfl
      | true => exact absurd (k2.mp rfl) h
    rw [k1, this]
/-- the least base from 2 on whose sign is not 1 -/
theorem paper_loop {S : Store} {g : Int} (hg : 2 ≤ g) (hb : g < 2 ^ 500) : ∀ (k : Nat) (b : Int) (m : Nat), 2 ≤ b → b ≤ g → g - b ≤ k → k < m → ∃ b', b ≤ b' ∧ b' ≤ g ∧ sgn b' g ≠ 1 ∧ (∀ x, b ≤ x → x < b' → sgn x g = 1) ∧
    whileL (fBool (fOp gEq (fCall m_sign_in (fCons (fVar 1) (fCons (fVar 0) fNil))) (fC (.int 1))) fuel) (fSet 1 (fOp gAdd (fRd 1) (fC (.int 1))) fuel) m [some (.fz (.int g)), some (.fz (.int b))] S = .nx [some (.fz (.int g)), some (.fz (.int b'))] S
  | k, b, m + 1, h1, h2, h3, hm => by
    have hs := fun S => sign_in (S := S) (a := b) (g := g) (by omega) hb
    by_cases c : sgn b g = 1
    · have hne : b ≠ g := fun z => by subst z; rw [sgn_self (by omega)] at c; cases c
      cases k with
      | zero => omega
      | succ k =>
        obtain ⟨b', a1, a2, a3, a4, a5⟩ := paper_loop (S := S) hg hb k (b + 1) m (by omega) (by omega) (by omega) (by omega)
        refine ⟨b', by omega, a2, a3, fun x x1 x2 => ?_, ?_⟩
        · by_cases e : x = b
          · rw [e]; exact c
          · exact a4 x (by omega) x2
        · simp [whileL, hs, c, a5]
    · exact ⟨b, by omega, h2, c, fun x x1 x2 => by omega, by simp [whileL, hs, c]⟩
theorem paper_base {g : Int} (hg : 2 ≤ g) (hb : g < 2 ^ 500) : ∃ b, 2 ≤ b ∧ b ≤ g ∧ sgn b g ≠ 1 ∧ (∀ x, 2 ≤ x → x < b → sgn x g = 1) ∧ ∀ S, m_paper_base [.int g] S = .ok (.int b) S := by
  have key := fun S => paper_loop (S := S) hg hb (g - 2).toNat 2 fuel (by omega) hg (by omega) (by unfold fuel; omega)
  obtain ⟨b, a1, a2, a3, a4, a5⟩ := key []
  refine ⟨b, a1, a2, a3, a4, fun S => ?_⟩
  obtain ⟨c, c1, c2, c3, c4, c5⟩ := key S
  have e : c = b := by
    rcases Int.lt_trichotomy c b with h | h | h
    · exact absurd (a4 c c1 h) c3
    · exact h
    · exact absurd (c4 b a1 h) a3
  subst e
  simp [m_paper_base, f_paper_base, N_paper_base, startE, c5]
end LW

end

section
set_option autoImplicit false
set_option autoImplicit false
namespace LW
open PySem PySem.Spec PyProof.Rows L2 DL NT
/-- the half rest -/
def hf (b g : Int) : Int := b ^ (g / 2).toNat % g
theorem half_hf {S : Store} {b g : Int} (hg : 0 < g) (hb : g < 2 ^ 500) : m_half_in [.int b, .int g] S = .ok (.int (hf b g)) S :=
  half_in hg (nat_lt_of (by omega) (by have : (2:Int) ^ 500 < 2 ^ 1000 := by decide +kernel
                                       omega))
/-- a false paper -/
def isF (b g : Int) : Bool := decide (¬ ((hf b g = 1 ∧ sgn b g = 1) ∨ (hf b g = g - 1 ∧ sgn b g = -1)))
theorem is_false_in {S : Store} {b g : Int} (hg : 3 ≤ g) (hb : g < 2 ^ 500) : m_is_false_in [.int b, .int g] S = .ok (.bl (isF b g)) S := by
  have h1 := fun S => half_hf (S := S) (b := b) (g := g) (by omega) hb
  have h2 := fun S => sign_in (S := S) (a := b) (g := g) (by omega) hb
  by_cases c1 : hf b g = 1
  · have c2 : ¬ (1 : Int) = g - 1 := by omega
    by_cases c3 : sgn b g = 1 <;> simp [m_is_false_in, f_is_false_in, N_is_false_in, startE, h1, h2, c1, c3, isF, c2]
  · by_cases c2 : hf b g = g - 1
    · have c4 : ¬ g - 1 = 1 := by omega
      by_cases c3 : sgn b g = -1 <;> simp [m_is_false_in, f_is_false_in, N_is_false_in, startE, h1, h2, c2, c3, c4, isF]
    · simp [m_is_false_in, f_is_false_in, N_is_false_in, startE, h1, h2, c1, c2, isF]
theorem nin_pairs {r s a b c d : Int} : gNinX (.tup [.int r, .int s]) (.tup [.tup [.int a, .int b], .tup [.int c, .int d]]) = some (.bl (!((a == r && b == s) || (c == r && d == s)))) := by
  have h1 : SeqAt.shaped (.tuple [.int r, .int s]) = true := shaped_tup [r, s]
  have h2 : SeqAt.shaped (.tuple [.tuple [.int a, .int b], .tuple [.int c, .int d]]) = true := by
    unfold SeqAt.shaped
    simp [PyData.canLay0, PyData.canLayAll0, PyData.depth, PyData.depthAll]
  simp [gNinX, gInD2, D.py, D.pys, h1, h2, PyData.eqv, PyData.eqvAll]
theorem law_is_false {S : Store} {b g : Int} (h3 : 3 ≤ g) (h40 : g ≤ 10 ^ 40) (ho : g % 2 = 1) : m__law_is_false [.int b, .int g] S = .ok (.bl (isF b g)) S := by
  have hb : g < 2 ^ 500 := by
    have : (10:Int) ^ 40 < 2 ^ 500 := by decide +kernel
    omega
  have h1 := fun S => law_half (S := S) (b := b) (g := g) h3 h40 ho
  have h2 := fun S => law_sign (S := S) (a := b) (g := g) (by omega) hb
  have e : b ^ (g / 2).toNat % g = hf b g := rfl
  rw [e] at h1
  obtain ⟨R, hR⟩ : ∃ R, R = hf b g := ⟨_, rfl⟩
  obtain ⟨Z, hZ⟩ : ∃ Z, Z = sgn b g := ⟨_, rfl⟩
  have r : (!((1 == R && 1 == Z) || (g - 1 == R && (-1) == Z))) = isF b g := by
    unfold isF
    rw [← hR, ← hZ]
    by_cases c1 : R = 1
    · subst c1
      have : ¬ (1 : Int) = g - 1 := by omega
      have t : ((g - 1 == (1 : Int))) = false := by simp; omega
      by_cases c2 : Z = 1
      · subst c2; simp
      · have u : ((1 : Int) == Z) = false := by simp; omega
        simp [c2, t, u, this]
    · have u : ((1 : Int) == R) = false := by simp; omega
      by_cases c2 : R = g - 1
      · by_cases c3 : Z = -1
        · subst c2 c3; simp
        · have v : ((-1 : Int) == Z) = false := by simp; omega
          simp [c1, c3, u, v]
      · have v : ((g - 1) == R) = false := by simp; omega
        simp [c1, c2, u, v]
  rw [← hR] at h1
  rw [← hZ] at h2
  rw [← r]
  simp [m__law_is_false, f__law_is_false, N__law_is_false, startE, h1, h2, nin_pairs]
end LW

end

section
set_option autoImplicit false
set_option autoImplicit false
namespace LW
open PySem PySem.Spec PyProof.Rows L2 DL NT
theorem prime_above {g : Int} (h3 : 3 ≤ g) (ho : g % 2 = 1) (hb : g < 2 ^ 500) : ∃ b, (∀ S, m_is_prime_above [.int g] S = .ok (.bl b) S) ∧ (b = false → ∃ x, 2 ≤ x ∧ x < g ∧ isF x g = true) := by
  by_cases c : g = 3
  · subst c; exact ⟨true, fun S => by simp [m_is_prime_above, f_is_prime_above, N_is_prime_above, startE], fun z => by cases z⟩
  · have hb2 : (2:Int) ^ 500 < 2 ^ 900 := by decide +kernel
    obtain ⟨sq, q1, q2⟩ := is_square (n := g) (by omega) (by omega)
    obtain ⟨b0, p1, p2, p3, p4, p5⟩ := paper_base (g := g) (by omega) hb
    have hh := fun S => half_hf (S := S) (b := b0) (g := g) (by omega) hb
    refine ⟨!sq && decide (hf b0 g = g - 1), fun S => ?_, fun z => ?_⟩
    · cases sq <;> simp [m_is_prime_above, f_is_prime_above, N_is_prime_above, startE, c, q1, p5, hh]
    · apply Classical.byContradiction
      intro hn
      have hall : ∀ b, 2 ≤ b → b < g → (b ^ (g / 2).toNat % g = 1 ∧ sgn b g = 1) ∨ (b ^ (g / 2).toNat % g = g - 1 ∧ sgn b g = -1) := fun b b1 b2 => by
        apply Classical.byContradiction
        intro w
        exact hn ⟨b, b1, b2, by unfold isF hf; exact decide_eq_true w⟩
      obtain ⟨hp, e⟩ := NT.no_false (by omega) (by omega) ho hall p1 p2 p3 p4
      have e : hf b0 g = g - 1 := e
      rw [e] at z
      have z : sq = true := by simpa using z
      obtain ⟨q, q0, qq⟩ := q2.mp z
      have q2 : 2 ≤ q := by
        rcases Int.lt_or_le q 2 with w | w
        · have : q = 0 ∨ q = 1 := by omega
          rcases this with rfl | rfl <;> omega
        · exact w
      have q3 : q * 2 ≤ q * q := Int.mul_le_mul_of_nonneg_left q2 q0
      exact hp.2 q q2 (by omega) ⟨q, qq.symm⟩
theorem false_loop {S : Store} {a b : Option Sl} {g : Int} (h3 : 3 ≤ g) (hb : g < 2 ^ 500) {x0 : Int} (hx : isF x0 g = true) : ∀ (k : Nat) (x : Int) (m : Nat), x ≤ x0 → x0 - x ≤ k → k < m → ∃ x', x ≤ x' ∧ x' ≤ x0 ∧ isF x' g = true ∧
    whileL (fNotT (fBool (fCall m_is_false_in (fCons (fVar 3) (fCons (fVar 2) fNil)))) fuel) (fSet 3 (fOp gAdd (fRd 3) (fC (.int 1))) fuel) m [a, b, some (.fz (.int g)), some (.fz (.int x))] S = .nx [a, b, some (.fz (.int g)), some (.fz (.int x'))] S
  | k, x, m + 1, h1, h2, hm => by
    have hs := fun S => is_false_in (S := S) (b := x) h3 hb
    cases c : isF x g with
    | true => exact ⟨x, by omega, h1, c, by simp [whileL, hs, c]⟩
    | false =>
      have : x ≠ x0 := fun z => by rw [z, hx] at c; cases c
      cases k with
      | zero => omega
      | succ k =>
        obtain ⟨x', a1, a2, a3, a4⟩ := false_loop (S := S) (a := a) (b := b) h3 hb hx k (x + 1) m (by omega) (by omega) (by omega)
        exact ⟨x', by omega, a2, a3, by simp [whileL, hs, c, a4]⟩
theorem small_great {f p : Int} (h : isSh f p = true) : f * 2 ^ p.toNat + 1 < 2 ^ 500 := by
  have := isSh_great h
  have : (10:Int) ^ 40 < 2 ^ 500 := by decide +kernel
  omega
theorem need_shape {f p : Int} {S : Store} (h : isSh f p = true) : m_need_two_shape [.int f, .int p] S = .ok .non S := by
  simp [m_need_two_shape, f_need_two_shape, N_need_two_shape, startE, fits, h]
theorem shape_prime {f p g : Int} {b : Bool} (h : isSh f p = true) (hg : g = f * 2 ^ p.toNat + 1) (hb : ∀ S, m_is_prime_above [.int g] S = .ok (.bl b) S) (S : Store) : m_is_shape_prime [.int f, .int p] S = .ok (.bl b) S := by
  obtain ⟨a1, a2, a3, a4, a5, a6, a7⟩ := isSh_great h
  simp [m_is_shape_prime, f_is_shape_prime, N_is_shape_prime, startE, need_shape h, above_in (by omega : 0 ≤ p) (by omega : p < 2 ^ 62), ← hg, hb]
theorem false_paper {f p g : Int} (h : isSh f p = true) (hg : g = f * 2 ^ p.toNat + 1) : ∃ b d, (∀ S, m_is_prime_above [.int g] S = .ok (.bl b) S) ∧ (∀ S, m_false_paper [.int f, .int p] S = .ok d S) ∧
    ((b = true ∧ d = .non) ∨ (b = false ∧ ∃ x, d = .int x ∧ 2 ≤ x ∧ x < g ∧ isF x g = true)) := by
  obtain ⟨a1, a2, a3, a4, a5, a6, a7⟩ := isSh_great h
  have hs := small_great h
  rw [← hg] at a5 a6 a7 hs
  have ha := fun S => above_in (S := S) (f := f) (p := p) (by omega) (by omega)
  rw [← hg] at ha
  obtain ⟨b, b1, b2⟩ := prime_above a5 a7 hs
  cases b with
  | true => exact ⟨true, .non, b1, fun S => by simp [m_false_paper, f_false_paper, N_false_paper, startE, need_shape h, ha, b1], .inl ⟨rfl, rfl⟩⟩
  | false =>
    obtain ⟨x0, x1, x2, x3⟩ := b2 rfl
    have key := fun S => false_loop (S := S) (a := some (.fz (.int f))) (b := some (.fz (.int p))) a5 hs x3 (x0 - 2).toNat 2 fuel (by omega) (by omega) (by unfold fuel; omega)
    have hd : ∃ x, (2 ≤ x ∧ x < g ∧ isF x g = true) ∧ (∀ y, 2 ≤ y → y < x → isF y g = false) := by
      have : ∀ n : Nat, ∀ z : Int, z ≤ 2 + n → 2 ≤ z → z < g → isF z g = true → ∃ x, (2 ≤ x ∧ x < g ∧ isF x g = true) ∧ (∀ y, 2 ≤ y → y < x → isF y g = false) := by
        intro n
        induction n with
        | zero => intro z z1 z2 z3 z4; exact ⟨z, ⟨z2, z3, z4⟩, fun y y1 y2 => by omega⟩
        | succ n ih =>
          intro z z1 z2 z3 z4
          by_cases hex : ∃ y, 2 ≤ y ∧ y < z ∧ isF y g = true
          · obtain ⟨y, y1, y2, y3⟩ := hex
            exact ih y (by omega) y1 (by omega) y3
          · refine ⟨z, ⟨z2, z3, z4⟩, fun y y1 y2 => ?_⟩
            cases e : isF y g with
            | false => rfl
            | true => exact absurd ⟨y, y1, y2, e⟩ hex
      exact this (x0 - 2).toNat x0 (by omega) x1 x2 x3
    obtain ⟨x, hx, hl⟩ := hd
    refine ⟨false, .int x, b1, fun S => ?_, .inr ⟨rfl, x, rfl, hx⟩⟩
    have key := false_loop (S := S) (a := some (.fz (.int f))) (b := some (.fz (.int p))) a5 hs hx.2.2 (x - 2).toNat 2 fuel hx.1 (by omega) (by unfold fuel; omega)
    obtain ⟨x', k1, k2, k3, k4⟩ := key
    have e : x' = x := by
      rcases Int.lt_or_le x' x with w | w
      · rw [hl x' k1 w] at k3; cases k3
      · omega
    subst e
    simp [m_false_paper, f_false_paper, N_false_paper, startE, need_shape h, ha, b1, k4]
theorem is_base_int {v g : Int} {S : Store} : m_is_base_to [.int v, .int g] S = .ok (.bl (decide (2 ≤ v) && decide (v < g))) S := by
  simp [m_is_base_to, f_is_base_to, N_is_base_to, startE]
  by_cases e : 2 ≤ v <;> simp [e]
end LW

end

section
set_option autoImplicit false
set_option autoImplicit false
namespace LW
open PySem PySem.Spec PyProof.Rows L2 DL NT
/-! ### primes by dividing -/
theorem lp_loop {S : Store} {n : Int} (hn : n < 2 ^ 60) : ∀ (k : Nat) (p : Int), 0 < p → p ≤ n + 1 → n + 1 - p ≤ k → ∀ m, k < m → 
    bodyR (thenF (whileL (fBool (fOp gLe (fOp gMul (fRd 1) (fRd 1)) (fRd 0)) fuel) ((fSeq (fIfS (fBool (fOp gEq (fOp gMod (fCB gInt (fCons (fRd 0) fNil)) (fRd 1)) (fC (.int 0)))) (fRet (fC (.bl false))) fSkip) (fSet 1 (fOp gAdd (fRd 1) (fC (.int 1))))) fuel) m [some (.fz (.int n)), some (.fz (.int p))] S) (fRet (fC (.bl true))) fuel) = .ok (.bl (NT.tri n k p)) S
  | k, p, h0, h1, h2, m + 1, hm => by
    have mk : mulOk p p = true := mulOk_l (by omega)
    by_cases c1 : p * p ≤ n
    · have hp : p * 1 ≤ p * p := Int.mul_le_mul_of_nonneg_left (by omega) (by omega)
      cases k with
      | zero => omega
      | succ k =>
        unfold NT.tri
        rw [if_pos c1]
        by_cases c2 : n % p = 0
        · simp [whileL, o_mul mk, c1, o_mod h0, c2, gInt]
        · rw [if_neg c2]
          have ih := lp_loop (S := S) hn k (p + 1) (by omega) (by omega) (by omega) m (by omega)
          simp [whileL, o_mul mk, c1, o_mod h0, c2, gInt]
          simpa using ih
    · have e : NT.tri n k p = true := by cases k <;> simp [NT.tri, c1]
      rw [e]
      simp [whileL, o_mul mk, c1]
theorem law_is_prime {S : Store} {n : Int} (hn : n < 2 ^ 60) : m__law_is_prime [.int n] S = .ok (.bl (NT.pmb n)) S := by
  by_cases c1 : n < 2
  · simp [m__law_is_prime, f__law_is_prime, N__law_is_prime, startE, c1, NT.pmb_small c1]
  · have e : NT.pmb n = NT.tri n (n - 1).toNat 2 := by
      refine NT.pmb_tri (by omega) ?_
      have : (2 + ((n - 1).toNat : Int)) = n + 1 := by omega
      rw [this]
      have : (n + 1) * 1 ≤ (n + 1) * (n + 1) := Int.mul_le_mul_of_nonneg_left (by omega) (by omega)
      omega
    have := lp_loop (S := S) hn (n - 1).toNat 2 (by decide) (by omega) (by omega) fuel (by unfold fuel; omega)
    rw [e]
    simp [m__law_is_prime, f__law_is_prime, N__law_is_prime, startE, c1]
    simpa using this
theorem lf_loop {S : Store} {n : Int} {x : Option Sl} (n0 : 2 ≤ n) (hn : n < 2 ^ 60) (n2 : n % 2 ≠ 0) (n3 : n % 3 ≠ 0) {r : Int} (hr : LD n r) : ∀ (k : Nat) (p : Int), p % 6 = 5 → 5 ≤ p → p ≤ n + 6 → n + 6 - p ≤ k → (∀ d, 2 ≤ d → d < p → ¬ d ∣ n) → ∀ m, k < m →
    bodyR (thenF (whileL (fBool (fOp gLe (fOp gMul (fRd 2) (fRd 2)) (fRd 0)) fuel) ((fSeq (fIfS (fBool (fOp gEq (fOp gMod (fRd 0) (fRd 2)) (fC (.int 0)))) (fRet (fVar 2)) fSkip) (fSeq (fIfS (fBool (fOp gEq (fOp gMod (fRd 0) (fOp gAdd (fRd 2) (fC (.int 2)))) (fC (.int 0)))) (fRet (fOp gAdd (fRd 2) (fC (.int 2)))) fSkip) (fSet 2 (fOp gAdd (fRd 2) (fC (.int 6)))))) fuel) m [some (.fz (.int n)), x, some (.fz (.int p))] S) (fRet (fVar 0)) fuel) = .ok (.int r) S
  | k, p, h6, h5, h1, h2, hd, m + 1, hm => by
    have mk : mulOk p p = true := mulOk_l (by omega)
    by_cases c1 : p * p ≤ n
    · have hp : p * 5 ≤ p * p := Int.mul_le_mul_of_nonneg_left (by omega) (by omega)
      cases k with
      | zero => omega
      | succ k =>
        by_cases c2 : n % p = 0
        · have e : r = p := hr.uniq ⟨by omega, Int.dvd_of_emod_eq_zero c2, hd⟩
          subst e
          simp [whileL, o_mul mk, c1, o_mod (by omega : 0 < r), c2]
        · have d1 : ¬ (p + 1) ∣ n := dvd_of_two (by omega) n2
          have hd2 : ∀ d, 2 ≤ d → d < p + 2 → ¬ d ∣ n := fun d a b => by
            rcases (by omega : d < p ∨ d = p ∨ d = p + 1) with z | z | z
            · exact hd d a z
            · subst z; exact not_dvd_of c2
            · subst z; exact d1
          by_cases c3 : n % (p + 2) = 0
          · have e : r = p + 2 := hr.uniq ⟨by omega, Int.dvd_of_emod_eq_zero c3, hd2⟩
            subst e
            simp [whileL, o_mul mk, c1, o_mod (by omega : 0 < p), o_mod (by omega : 0 < p + 2), c2, c3]
          · have hd6 : ∀ d, 2 ≤ d → d < p + 6 → ¬ d ∣ n := fun d a b => by
              rcases (by omega : d < p + 2 ∨ d = p + 2 ∨ d = p + 3 ∨ d = p + 4 ∨ d = p + 5) with z | z | z | z | z
              · exact hd2 d a z
              · subst z; exact not_dvd_of c3
              · exact dvd_of_two (by omega) n2
              · exact dvd_of_three (by omega) n3
              · exact dvd_of_two (by omega) n2
            have ih := lf_loop (S := S) (x := x) n0 hn n2 n3 hr k (p + 6) (by omega) (by omega) (by omega) (by omega) hd6 m (by omega)
            simp [whileL, o_mul mk, c1, o_mod (by omega : 0 < p), o_mod (by omega : 0 < p + 2), c2, c3]
            simpa using ih
    · have e : r = n := hr.uniq (LD.end n0 (by omega) (by omega) hd)
      subst e
      simp [whileL, o_mul mk, c1]
theorem least_factor {S : Store} {n r : Int} (n0 : 2 ≤ n) (hn : n < 2 ^ 60) (hr : LD n r) : m_least_factor [.int n] S = .ok (.int r) S := by
  by_cases c1 : n % 2 = 0
  · have e : r = 2 := hr.uniq ⟨by omega, Int.dvd_of_emod_eq_zero c1, fun d a b => by omega⟩
    subst e
    simp [m_least_factor, f_least_factor, N_least_factor, startE, fIt, e_forL_cons, o_mod (show (0:Int) < 2 by decide), c1]
  · have n2 : ∀ d, 2 ≤ d → d < 3 → ¬ d ∣ n := fun d a b => by
      have : d = 2 := by omega
      subst this; exact not_dvd_of c1
    by_cases c2 : n % 3 = 0
    · have e : r = 3 := hr.uniq ⟨by omega, Int.dvd_of_emod_eq_zero c2, n2⟩
      subst e
      simp [m_least_factor, f_least_factor, N_least_factor, startE, fIt, e_forL_cons, o_mod (show (0:Int) < 2 by decide), o_mod (show (0:Int) < 3 by decide), c1, c2]
    · have n5 : ∀ d, 2 ≤ d → d < 5 → ¬ d ∣ n := fun d a b => by
        rcases (by omega : d < 3 ∨ d = 3 ∨ d = 4) with z | z | z
        · exact n2 d a z
        · subst z; exact not_dvd_of c2
        · exact dvd_of_two (by omega) c1
      have := lf_loop (S := S) (x := some (.fz (.int 3))) n0 hn c1 c2 hr (n + 1).toNat 5 (by decide) (by decide) (by omega) (by omega) n5 fuel (by unfold fuel; omega)
      simp [m_least_factor, f_least_factor, N_least_factor, startE, fIt, e_forL_cons, o_mod (show (0:Int) < 2 by decide), o_mod (show (0:Int) < 3 by decide), c1, c2]
      simpa using this
theorem is_prime_in {S : Store} {n : Int} (hn : n < 2 ^ 60) : m_is_prime_in [.int n] S = .ok (.bl (pmb n)) S := by
  by_cases c : 1 < n
  · obtain ⟨r, hr⟩ := ex_LD (show 2 ≤ n by omega)
    simp [m_is_prime_in, f_is_prime_in, N_is_prime_in, startE, least_factor (by omega : 2 ≤ n) hn hr, c, hr.pmb (by omega)]
  · simp [m_is_prime_in, f_is_prime_in, N_is_prime_in, startE, c, pmb_small (by omega : n < 2)]
theorem is_prime {S : Store} {n : Int} (h1 : 1 ≤ n) (h2 : n ≤ 10 ^ 10) : m_is_prime [.int n] S = .ok (.bl (pmb n)) S := by
  have h2' : n ≤ 10000000000 := h2
  simp [m_is_prime, f_is_prime, N_is_prime, startE, m_need_number, f_need_number, N_need_number, need_whole_int h1 h2', is_prime_in (by omega : n < 2 ^ 60)]
/-! ### the test by a base tells the primes -/
theorem prime_above_pmb {f g : Int} {p : Nat} (hs : isSh f p = true) (hg : g = f * 2 ^ p + 1) (S : Store) : m_is_prime_above [.int g] S = .ok (.bl (pmb g)) S := by
  have ep : ((p : Int)).toNat = p := by omega
  have hb := small_great hs
  obtain ⟨a1, a2, a3, a4, a5, a6, a7⟩ := isSh_great hs
  have a8 : f < 2 ^ p := by
    unfold isSh at hs
    have := of_decide_eq_true hs
    rw [ep] at this; exact this.2.2.2.2.1
  rw [ep, ← hg] at hb a5 a6 a7
  by_cases c : g = 3
  · have hp : pmb g = true := by
      rw [c, pmb_iff]
      refine ⟨by decide, fun d d1 d2 d3 => ?_⟩
      have : d = 2 := by omega
      subst this; omega
    rw [hp, c]
    simp [m_is_prime_above, f_is_prime_above, N_is_prime_above, startE]
  · have hb2 : (2:Int) ^ 500 < 2 ^ 900 := by decide +kernel
    obtain ⟨sq, q1, q2⟩ := is_square (n := g) (by omega) (by omega)
    obtain ⟨b0, p1, p2, p3, p4, p5⟩ := paper_base (g := g) (by omega) hb
    have hh := fun S => half_hf (S := S) (b := b0) (g := g) (by omega) hb
    have m1 : m_is_prime_above [.int g] S = .ok (.bl (!sq && decide (hf b0 g = g - 1))) S := by
      cases sq <;> simp [m_is_prime_above, f_is_prime_above, N_is_prime_above, startE, c, q1, p5, hh]
    rw [m1]
    congr 2
    obtain ⟨q, rfl⟩ : ∃ q, p = q + 1 := ⟨p - 1, by omega⟩
    cases hpm : pmb g with
    | false =>
      have : hf b0 g ≠ g - 1 := fun z => by
        have := proth hg a1 a8 z
        rw [pmb_iff.mpr this] at hpm; cases hpm
      simp [this]
    | true =>
      have hp := pmb_iff.mp hpm
      have hsq : sq = false := by
        cases sq with
        | false => rfl
        | true =>
          obtain ⟨q, q0, qq⟩ := q2.mp rfl
          have q2' : 2 ≤ q := by
            rcases Int.lt_or_le q 2 with w | w
            · have : q = 0 ∨ q = 1 := by omega
              rcases this with rfl | rfl <;> omega
            · exact w
          have q3 : q * 2 ≤ q * q := Int.mul_le_mul_of_nonneg_left q2' q0
          exact absurd ⟨q, qq.symm⟩ (hp.2 q q2' (by omega))
      obtain ⟨s1, s2, s3⟩ := sgn_prime (a := b0) hp (by omega) a7
      have hlt : b0 < g := by
        apply Classical.byContradiction
        intro w
        have e : b0 = g := by omega
        refine pow_one_few hp (h := (g / 2).toNat) (by omega) (by omega) fun x x1 x2 => ?_
        by_cases c1 : x = 1
        · subst c1; rw [Int.one_pow]; exact ⟨0, by omega⟩
        · have := (sgn_prime (a := x) hp (by omega) a7).1.mp (p4 x (by omega) (by omega))
          exact emod_dvd_sub this
      have hm : sgn b0 g = -1 := by
        have hn : ¬ g ∣ b0 := not_dvd_small (by omega) hlt
        rw [sgn_J (by omega) a7] at p3 ⊢
        rcases hp.J_ne hn with z | z
        · exact absurd z p3
        · exact z
      have : hf b0 g = g - 1 := s2.mp hm
      simp [hsq, this]
end LW

end

section
set_option autoImplicit false
set_option autoImplicit false
namespace LW
open PySem PySem.Spec PyProof.Rows L2 DL NT
theorem shape_prime' {f g : Int} {p : Nat} (h : isSh f p = true) (hg : g = f * 2 ^ p + 1) (S : Store) : m_is_shape_prime [.int f, .int p] S = .ok (.bl (pmb g)) S :=
  shape_prime h (by have ep : ((p : Int)).toNat = p := by omega
                    rw [ep]; exact hg) (fun S => prime_above_pmb h hg S) S
theorem shape_ep {f g : Int} {p : Nat} (hg : g = f * 2 ^ p + 1) : g = f * 2 ^ (p : Int).toNat + 1 := by
  have ep : ((p : Int)).toNat = p := by omega
  rw [ep]; exact hg
theorem proth_paper {f g : Int} {p : Nat} (h : isSh f p = true) (hg : g = f * 2 ^ p + 1) : ∃ d, (∀ S, m_proth_paper [.int f, .int p] S = .ok d S) ∧
    ((pmb g = true ∧ ∃ b, d = .int b ∧ 2 ≤ b ∧ b < g ∧ hf b g = g - 1) ∨ (pmb g = false ∧ d = .non)) := by
  obtain ⟨a1, a2, a3, a4, a5, a6, a7⟩ := isSh_great h
  have hs := small_great h
  rw [← shape_ep hg] at a5 a6 a7 hs
  have ha := fun S => above_in (S := S) (f := f) (p := p) (by omega) (by omega)
  rw [← shape_ep hg] at ha
  have b1 := fun S => prime_above_pmb h hg S
  by_cases c : g = 3
  · have hp : pmb g = true := by
      rw [c, pmb_iff]
      refine ⟨by decide, fun d d1 d2 d3 => ?_⟩
      have : d = 2 := by omega
      subst this; omega
    refine ⟨.int 2, fun S => by simp [m_proth_paper, f_proth_paper, N_proth_paper, startE, need_shape h, ha, c], .inl ⟨hp, 2, rfl, by omega, by omega, ?_⟩⟩
    rw [c]; decide
  · cases hp : pmb g with
    | false =>
      rw [hp] at b1
      exact ⟨.non, fun S => by simp [m_proth_paper, f_proth_paper, N_proth_paper, startE, need_shape h, ha, c, b1], .inr ⟨rfl, rfl⟩⟩
    | true =>
      rw [hp] at b1
      have hb2 : (2:Int) ^ 500 < 2 ^ 900 := by decide +kernel
      obtain ⟨sq, q1, q2⟩ := is_square (n := g) (by omega) (by omega)
      obtain ⟨b0, p1, p2, p3, p4, p5⟩ := paper_base (g := g) (by omega) hs
      have hh := fun S => half_hf (S := S) (b := b0) (g := g) (by omega) hs
      have m1 : m_is_prime_above [.int g] [] = .ok (.bl (!sq && decide (hf b0 g = g - 1))) [] := by
        cases sq <;> simp [m_is_prime_above, f_is_prime_above, N_is_prime_above, startE, c, q1, p5, hh]
      rw [b1] at m1
      have e : true = (!sq && decide (hf b0 g = g - 1)) := by
        injection m1 with m1; injection m1
      have e2 : hf b0 g = g - 1 := by
        have := e.symm
        simp only [Bool.and_eq_true, decide_eq_true_eq] at this
        exact this.2
      refine ⟨.int b0, fun S => by simp [m_proth_paper, f_proth_paper, N_proth_paper, startE, need_shape h, ha, c, b1, p5], .inl ⟨rfl, b0, rfl, p1, ?_, e2⟩⟩
      apply Classical.byContradiction
      intro w
      have e3 : b0 = g := by omega
      rw [e3] at e2
      unfold hf at e2
      obtain ⟨k, hk⟩ : ∃ k, (g / 2).toNat = k + 1 := ⟨(g / 2).toNat - 1, by omega⟩
      rw [hk, Int.pow_succ, Int.mul_emod_left] at e2
      omega
theorem is_proth_int {f g v : Int} {p : Nat} {S : Store} (h : isSh f p = true) (hg : g = f * 2 ^ p + 1) : m_is_proth_paper [.int f, .int p, .int v] S = .ok (.bl (decide (2 ≤ v ∧ v < g) && decide (hf v g = g - 1))) S := by
  obtain ⟨a1, a2, a3, a4, a5, a6, a7⟩ := isSh_great h
  have hs := small_great h
  rw [← shape_ep hg] at a5 a6 a7 hs
  have ha := fun S => above_in (S := S) (f := f) (p := p) (by omega) (by omega)
  rw [← shape_ep hg] at ha
  have hh := fun S => half_hf (S := S) (b := v) (g := g) (by omega) hs
  by_cases e : 2 ≤ v <;> by_cases e2 : v < g <;> simp [m_is_proth_paper, f_is_proth_paper, N_is_proth_paper, startE, need_shape h, ha, is_base_int, e, e2, hh]
theorem is_proth_no {f : Int} {p : Nat} {d : D} {S : Store} (h : isSh f p = true) (hd : ∀ S, m_is_integer [d] S = .ok (.bl false) S) : m_is_proth_paper [.int f, .int p, d] S = .ok (.bl false) S := by
  obtain ⟨a1, a2, a3, a4, a5, a6, a7⟩ := isSh_great h
  have ha := fun S => above_in (S := S) (f := f) (p := p) (by omega) (by omega)
  simp [m_is_proth_paper, f_is_proth_paper, N_is_proth_paper, startE, need_shape h, ha, m_is_base_to, f_is_base_to, N_is_base_to, hd]
/-- values that the law tries -/
def OkV (d : D) : Prop := (∃ v, d = .int v) ∨ d = .non ∨ (∃ b, d = .bl b) ∨ (∃ s, d = .str s) ∨ ∃ l, d = .tup l
theorem is_integer_okv {d : D} {S : Store} (h : OkV d) (hn : ∀ v, d ≠ .int v) : m_is_integer [d] S = .ok (.bl false) S := by
  rcases h with ⟨v, rfl⟩ | rfl | ⟨b, rfl⟩ | ⟨s, rfl⟩ | ⟨l, rfl⟩
  · exact absurd rfl (hn v)
  · exact is_integer_no (.inl rfl)
  · exact is_integer_no (.inr (.inl rfl))
  · exact is_integer_no (.inr (.inr (.inl rfl)))
  · exact is_integer_no (.inr (.inr (.inr (.inl rfl))))
theorem like_bl {b : Bool} {S : Store} : m__law_like [.bl b, .bl b] S = .ok (.bl true) S := like rfl
abbrev bRight : FS := (fSeq (fSet 10 (fAnd (fOp gEq (fCall m__law_sort (fCons (fVar 9) fNil)) (fC (.int 2))) (fAnd (fChain gLe gLt (fC (.int 2)) (fRd 9) (fRd 4)) (fOp gEq (fCall m__law_half (fCons (fVar 9) (fCons (fVar 4) fNil))) (fOp gSub (fRd 4) (fC (.int 1))))))) (fIfS (fNotT (fBool (fCall m__law_like (fCons (fCall m_is_proth_paper (fCons (fVar 1) (fCons (fVar 2) (fCons (fVar 9) fNil)))) (fCons (fVar 10) fNil))))) (fRet (fC (.bl false))) fSkip))
theorem right_body {f g : Int} {p : Nat} {c x3 x5 x6 x7 x8 x10 : Option Sl} {d : D} {S : Store} (h : isSh f p = true) (hg : g = f * 2 ^ p + 1) (hd : OkV d) : ∃ y,
    bRight fuel [c, some (.fz (.int f)), some (.fz (.int p)), x3, some (.fz (.int g)), x5, x6, x7, x8, some (.fz d), x10] S = .nx [c, some (.fz (.int f)), some (.fz (.int p)), x3, some (.fz (.int g)), x5, x6, x7, x8, some (.fz d), y] S := by
  obtain ⟨a1, a2, a3, a4, a5, a6, a7⟩ := isSh_great h
  rw [← shape_ep hg] at a5 a6 a7
  by_cases hi : ∃ v, d = .int v
  · obtain ⟨v, rfl⟩ := hi
    have h1 := fun S => is_proth_int (S := S) (v := v) h hg
    have h2 := fun S => law_half (S := S) (b := v) a5 a6 a7
    have e0 : v ^ (g / 2).toNat % g = hf v g := rfl
    rw [e0] at h2
    by_cases e : 2 ≤ v <;> by_cases e2 : v < g <;> refine ⟨?_, ?_⟩ <;> first | (simp [h1, h2, e, e2, like_bl]; rfl) | skip
  · have hn : ∀ v, d ≠ .int v := fun v z => hi ⟨v, z⟩
    have h1 := fun S => is_proth_no (S := S) h (fun S => is_integer_okv (S := S) hd hn)
    refine ⟨some (.fz (.bl false)), ?_⟩
    rcases hd with ⟨v, rfl⟩ | rfl | ⟨b, rfl⟩ | ⟨s, rfl⟩ | ⟨l, rfl⟩
    · exact absurd rfl (hn v)
    · simp [h1, like_bl]
    · simp [h1, like_bl]
    · simp [h1, like_bl]
    · simp [h1, like_bl]
theorem right_loop {f g : Int} {p : Nat} {c x3 x5 x6 x7 x8 : Option Sl} {S : Store} (h : isSh f p = true) (hg : g = f * 2 ^ p + 1) : ∀ (l : List D) (x9 x10 : Option Sl), (∀ d ∈ l, OkV d) → ∃ E',
    forL (gN 9) (bRight fuel) l [c, some (.fz (.int f)), some (.fz (.int p)), x3, some (.fz (.int g)), x5, x6, x7, x8, x9, x10] S = .nx E' S
  | [], x6, x7, _ => ⟨_, rfl⟩
  | d :: l, x9, x10, hl => by
    obtain ⟨y, hy⟩ := right_body (c := c) (x3 := x3) (x5 := x5) (x6 := x6) (x7 := x7) (x8 := x8) (x10 := x10) (S := S) h hg (hl d (List.mem_cons_self ..))
    obtain ⟨E', hE⟩ := right_loop (c := c) (x3 := x3) (x5 := x5) (x6 := x6) (x7 := x7) (x8 := x8) (S := S) h hg l (some (.fz d)) y fun z hz => hl z (List.mem_cons_of_mem _ hz)
    refine ⟨E', ?_⟩
    rw [e_forL_cons]
    simp only [e_gN, List.set_cons_succ, List.set_cons_zero, hy, hE]
theorem pow6 : gPow (.int 10) (.int 6) = some (.int 1000000) := by rw [o_pow (by decide) (by decide) (by decide)]; rfl
theorem law_right {f : Int} {p : Nat} {sm : Bool} {S : Store} (hc : Cup S) (h : isSh f p = true) (hsm : sm = true → f * 2 ^ p + 1 ≤ 10 ^ 10) : ∃ S', Cup S' ∧ m__law_right [.hd 0, .int f, .int p, .bl sm] S = .ok (.bl true) S' := by
  obtain ⟨g, hg⟩ : ∃ g, g = f * 2 ^ p + 1 := ⟨_, rfl⟩
  obtain ⟨a1, a2, a3, a4, a5, a6, a7⟩ := isSh_great h
  rw [← shape_ep hg] at a5 a6 a7
  rw [← hg] at hsm
  have ha := fun S => law_above (S := S) (f := f) (p := p) (by omega) (by omega)
  rw [← shape_ep hg] at ha
  obtain ⟨b, d, b1, b2, b3⟩ := false_paper h (shape_ep hg)
  have ms := fun S => shape_prime' h hg S
  obtain ⟨e, e1, e2⟩ := proth_paper h hg
  have hb : b = pmb g := by
    have h1 := b1 []
    rw [prime_above_pmb h hg] at h1
    injection h1 with h1; injection h1 with h1; exact h1.symm
  have mn : ∀ S, m_number_above [.int f, .int p] S = .ok (.int g) S := fun S => by
    have := above_in (S := S) (f := f) (p := p) (by omega) (by omega)
    rw [← shape_ep hg] at this
    simp [m_number_above, f_number_above, N_number_above, startE, need_shape h, this]
  have lp : sm = true → ∀ S, m__law_is_prime [.int g] S = .ok (.bl (pmb g)) S := fun z S => law_is_prime (by have := hsm z; omega)
  have ip : sm = true → ∀ S, m_is_prime [.int g] S = .ok (.bl (pmb g)) S := fun z S => is_prime (by omega) (hsm z)
  obtain ⟨x, S', r1, r2, r3, r4⟩ := law_roll hc (k := 1000000) (by decide) (by decide)
  refine ⟨S', r2, ?_⟩
  have hl : ∀ (s : Int), ∀ d ∈ [D.int s, D.int (s + 1), D.int (g - s), D.int (g + s), D.int (g - 1), D.int g, D.int 1, D.int 0, D.int (-2), D.non, D.bl true, D.str "2", D.tup [D.int s], D.int (2 + x)], OkV d := by
    intro s d hd
    simp only [List.mem_cons, List.not_mem_nil, or_false] at hd
    rcases hd with rfl | rfl | rfl | rfl | rfl | rfl | rfl | rfl | rfl | rfl | rfl | rfl | rfl | rfl <;>
      first | exact .inl ⟨_, rfl⟩ | exact .inr (.inl rfl) | exact .inr (.inr (.inl ⟨_, rfl⟩)) | exact .inr (.inr (.inr (.inl ⟨_, rfl⟩))) | exact .inr (.inr (.inr (.inr ⟨_, rfl⟩)))
  have lk : ∀ S, m__law_like [.lst [.int g, .bl true], .lst [.int g, .bl true]] S = .ok (.bl true) S := fun S => like rfl
  rw [hb] at b3
  rcases e2 with ⟨hp, y, rfl, y1, y2, y3⟩ | ⟨hp, rfl⟩
  · have hd : d = .non := by
      rcases b3 with ⟨_, z⟩ | ⟨z, _⟩
      · exact z
      · rw [hp] at z; cases z
    subst hd
    have h2 := fun S => law_half (S := S) (b := y) a5 a6 a7
    have e0 : y ^ (g / 2).toNat % g = hf y g := rfl
    rw [e0, y3] at h2
    rw [hp] at ms lp ip
    obtain ⟨E', hE⟩ := right_loop (c := some (.fz (.hd 0))) (x3 := some (.fz (.bl sm))) (x5 := some (.fz (.bl true))) (x6 := some (.fz (.int y))) (x7 := some (.fz .non)) (x8 := some (.fz (.int y))) (S := S') h hg _ none none (hl y)
    cases sm with
    | false =>
      simp [m__law_right, f__law_right, N__law_right, startE, ha, ms, e1, mn, lk, b2, gIs, gIsN, pow6, r1, fIt, truD, y1, y2, h2] at hE ⊢
      simp [hE]
    | true =>
      have lp := lp rfl
      have ip := ip rfl
      simp [m__law_right, f__law_right, N__law_right, startE, ha, ms, e1, mn, lk, b2, gIs, gIsN, pow6, r1, fIt, truD, y1, y2, h2, lp, ip] at hE ⊢
      simp [hE]
  · have hd : ∃ y, d = .int y ∧ 2 ≤ y ∧ y < g ∧ isF y g = true := by
      rcases b3 with ⟨z, _⟩ | ⟨_, z⟩
      · rw [hp] at z; cases z
      · exact z
    obtain ⟨y, rfl, y1, y2, y3⟩ := hd
    have hf := fun S => law_is_false (S := S) (b := y) a5 a6 a7
    rw [hp] at ms lp ip
    obtain ⟨E', hE⟩ := right_loop (c := some (.fz (.hd 0))) (x3 := some (.fz (.bl sm))) (x5 := some (.fz (.bl false))) (x6 := some (.fz .non)) (x7 := some (.fz (.int y))) (x8 := some (.fz (.int 3))) (S := S') h hg _ none none (hl 3)
    cases sm with
    | false =>
      simp [m__law_right, f__law_right, N__law_right, startE, ha, ms, e1, mn, lk, b2, gIs, gIsN, pow6, r1, fIt, truD, y1, y2, hf, y3] at hE ⊢
      simp [hE]
    | true =>
      have lp := lp rfl
      have ip := ip rfl
      simp [m__law_right, f__law_right, N__law_right, startE, ha, ms, e1, mn, lk, b2, gIs, gIsN, pow6, r1, fIt, truD, y1, y2, hf, y3, lp, ip] at hE ⊢
      simp [hE]
end LW

end

section
set_option autoImplicit false
set_option autoImplicit false
namespace LW
open PySem PySem.Spec PyProof.Rows L2 DL NT
theorem k1 (S : Store) : m_is_shape_prime [.int 3, .int 2] S = .ok (.bl true) S := by kernel_rfl
theorem k2 (S : Store) : m_is_shape_prime [.int 1, .int 3] S = .ok (.bl false) S := by kernel_rfl
theorem k3 (S : Store) : m_is_proth_paper [.int 3, .int 2, .int 2] S = .ok (.bl true) S := by kernel_rfl
theorem k4 (S : Store) : m_is_proth_paper [.int 3, .int 2, .int 3] S = .ok (.bl false) S := by kernel_rfl
theorem k5 (S : Store) : m_proth_paper [.int 1, .int 3] S = .ok .non S := by kernel_rfl
theorem k6 (S : Store) : m_is_proth_paper [.int 1, .int 1, .int 2] S = .ok (.bl true) S := by kernel_rfl
theorem k7 (S : Store) : m_proth_paper [.int 1, .int 1] S = .ok (.int 2) S := by kernel_rfl
theorem k8 (S : Store) : m_is_shape_prime [.int 3, .int 3] S = .ok (.bl false) S := by kernel_rfl
theorem k9 (S : Store) : m_is_shape_prime [.int 9, .int 5] S = .ok (.bl false) S := by kernel_rfl
theorem k10 (S : Store) : m_proth_paper [.int 3, .int 3] S = .ok .non S := by kernel_rfl
theorem k11 (S : Store) : m_proth_paper [.int 9, .int 5] S = .ok .non S := by kernel_rfl
theorem p1 (S : Store) : m_is_shape_prime [.int 3, .int 12] S = .ok (.bl true) S := by kernel_rfl
theorem p2 (S : Store) : m_is_shape_prime [.int 5, .int 13] S = .ok (.bl true) S := by kernel_rfl
theorem p3 (S : Store) : m_is_shape_prime [.int 1, .int 16] S = .ok (.bl true) S := by kernel_rfl
theorem p4 (S : Store) : m_is_shape_prime [.int 3, .int 18] S = .ok (.bl true) S := by kernel_rfl
theorem p5 (S : Store) : m_is_shape_prime [.int 7, .int 20] S = .ok (.bl true) S := by kernel_rfl
theorem p6 (S : Store) : m_is_shape_prime [.int 5, .int 25] S = .ok (.bl true) S := by kernel_rfl
theorem p7 (S : Store) : m_is_shape_prime [.int 7, .int 26] S = .ok (.bl true) S := by kernel_rfl
theorem p8 (S : Store) : m_is_shape_prime [.int 119, .int 23] S = .ok (.bl true) S := by kernel_rfl
theorem n1 (S : Store) : m_number_above [.int 3, .int 12] S = .ok (.int 12289) S := by kernel_rfl
theorem n2 (S : Store) : m_number_above [.int 5, .int 13] S = .ok (.int 40961) S := by kernel_rfl
theorem n3 (S : Store) : m_number_above [.int 1, .int 16] S = .ok (.int 65537) S := by kernel_rfl
theorem n4 (S : Store) : m_number_above [.int 3, .int 18] S = .ok (.int 786433) S := by kernel_rfl
theorem n5 (S : Store) : m_number_above [.int 7, .int 20] S = .ok (.int 7340033) S := by kernel_rfl
theorem n6 (S : Store) : m_number_above [.int 5, .int 25] S = .ok (.int 167772161) S := by kernel_rfl
theorem n7 (S : Store) : m_number_above [.int 7, .int 26] S = .ok (.int 469762049) S := by kernel_rfl
theorem n8 (S : Store) : m_number_above [.int 119, .int 23] S = .ok (.int 998244353) S := by kernel_rfl
theorem s1 (S : Store) : m_number_above [.int 1, .int 3] S = .ok (.int 9) S := by kernel_rfl
theorem s2 (S : Store) : m_number_above [.int 3, .int 3] S = .ok (.int 25) S := by kernel_rfl
theorem s3 (S : Store) : m_number_above [.int 9, .int 5] S = .ok (.int 289) S := by kernel_rfl
theorem pm1 : pmb 12289 = true := by
  have h := p1 []
  have h2 : m_is_shape_prime [.int 3, .int 12] [] = .ok (.bl (pmb 12289)) [] := shape_prime' (f := 3) (p := 12) (g := 12289) (by decide +kernel) (by decide) []
  rw [h2] at h
  injection h with h; injection h
theorem pm5 : pmb 7340033 = true := by
  have h := p5 []
  have h2 : m_is_shape_prime [.int 7, .int 20] [] = .ok (.bl (pmb 7340033)) [] := shape_prime' (f := 7) (p := 20) (g := 7340033) (by decide +kernel) (by decide) []
  rw [h2] at h
  injection h with h; injection h
theorem pm6 : pmb 167772161 = true := by
  have h := p6 []
  have h2 : m_is_shape_prime [.int 5, .int 25] [] = .ok (.bl (pmb 167772161)) [] := shape_prime' (f := 5) (p := 25) (g := 167772161) (by decide +kernel) (by decide) []
  rw [h2] at h
  injection h with h; injection h
theorem pm8 : pmb 998244353 = true := by
  have h := p8 []
  have h2 : m_is_shape_prime [.int 119, .int 23] [] = .ok (.bl (pmb 998244353)) [] := shape_prime' (f := 119) (p := 23) (g := 998244353) (by decide +kernel) (by decide) []
  rw [h2] at h
  injection h with h; injection h
theorem shapes_loop {sm : Bool} {a0 x2 x3 x7 x8 x9 x10 x11 : Option Sl} : ∀ (ks : List Int), (∀ k ∈ ks, 0 < k ∧ k ≤ 110 ∧ (sm = true → k ≤ 10)) → ∀ (S : Store) (x4 x5 x6 : Option Sl), Cup S → ∃ S' x4' x5' x6', Cup S' ∧
    forL (gN 4) ((fSeq (fAsg (gT (gConss (gN 5) (gConss (gN 6) gNils))) (fCall m__law_shape (fCons (fVar 1) (fCons (fVar 4) fNil)))) (fIfS (fNotT (fBool (fCall m__law_right (fCons (fVar 1) (fCons (fVar 5) (fCons (fVar 6) (fCons (fC (.bl sm)) fNil))))))) (fRet (fC (.bl false))) fSkip)) fuel) (ks.map D.int)
      [a0, some (.fz (.hd 0)), x2, x3, x4, x5, x6, x7, x8, x9, x10, x11] S = .nx [a0, some (.fz (.hd 0)), x2, x3, x4', x5', x6', x7, x8, x9, x10, x11] S'
  | [], _, S, x4, x5, x6, hc => ⟨S, x4, x5, x6, hc, rfl⟩
  | k :: ks, hk, S, x4, x5, x6, hc => by
    obtain ⟨k0, k1, k2⟩ := hk k (List.mem_cons_self ..)
    obtain ⟨f, p, S1, h1, h2, h3, hp⟩ := law_shape hc k0 k1
    have hsm : sm = true → f * 2 ^ p + 1 ≤ 10 ^ 10 := fun z => by
      have := k2 z
      have a8 : f < 2 ^ p := by
        have ep : ((p : Int)).toNat = p := by omega
        unfold isSh at h3
        have := of_decide_eq_true h3
        rw [ep] at this; exact this.2.2.2.2.1
      have hb := pow2_mono (show p ≤ 10 by omega)
      have h9 : f * 2 ^ p ≤ 2 ^ 10 * 2 ^ p := Int.mul_le_mul_of_nonneg_right (by omega) (by have := pow2_pos p; omega)
      omega
    obtain ⟨S2, h4, h5⟩ := law_right (sm := sm) h2 h3 hsm
    obtain ⟨S', x4', x5', x6', h6, h7⟩ := shapes_loop (a0 := a0) (x2 := x2) (x3 := x3) (x7 := x7) (x8 := x8) (x9 := x9) (x10 := x10) (x11 := x11) ks (fun z hz => hk z (List.mem_cons_of_mem _ hz)) S2 (some (.fz (.int k))) (some (.fz (.int f))) (some (.fz (.int p))) h4
    refine ⟨S', x4', x5', x6', h6, ?_⟩
    rw [e_forL_map]
    simp [h1, h5, h7]
theorem ne_nil_nil : gNe (.lst []) (.lst []) = some (.bl false) := ne_nil (ns := [])
theorem in_lst {i : Int} {ns : List Int} : gIn (.int i) (.lst (ns.map D.int)) = some (.bl (ns.any fun n => n == i)) := by
  have h : (ns.map D.int).all flatD = true := by simp [List.all_map, flatD]
  simp [gIn, gInB, inF, flatD, List.any_map, Function.comp_def, eqF, List.all_map]
theorem nin_lst {i : Int} {ns : List Int} : gNin (.int i) (.lst (ns.map D.int)) = some (.bl (!ns.any fun n => n == i)) := by
  have h : (ns.map D.int).all flatD = true := by simp [List.all_map, flatD]
  simp [gNin, gInB, inF, flatD, List.any_map, Function.comp_def, eqF, List.all_map]
abbrev bFr : FS := (fSeq (fSet 7 (fCall m__law_above (fCons (fVar 5) (fCons (fVar 6) fNil)))) (fSeq (fSet 8 (fLc (fIt (fTup (fCons (fC (.int 3)) (fCons (fC (.int 5)) (fCons (fC (.int 7)) (fCons (fC (.int 11)) (fCons (fC (.int 13)) fNil))))))) (gN 10) fYes (fCall m__law_half (fCons (fVar 10) (fCons (fVar 7) fNil))) [10])) (fSeq (fIfS (fAndT (fBool (fOp gIn (fOp gSub (fRd 7) (fC (.int 1))) (fRd 8))) (fBool (fOp gIsNB (fCall m_is_shape_prime (fCons (fVar 5) (fCons (fVar 6) fNil))) (fC (.bl true))))) (fRet (fC (.bl false))) fSkip) (fIfS (fAndT (fBool (fOp gNin (fOp gSub (fRd 7) (fC (.int 1))) (fRd 8))) (fAndT (fBool (fOp gNe (fLc (fIt (fVar 8)) (gN 11) (fBool (fOp gNe (fRd 11) (fC (.int 1)))) (fVar 11) [11]) (fLst fNil))) (fBool (fOp gIsNB (fCall m_is_shape_prime (fCons (fVar 5) (fCons (fVar 6) fNil))) (fC (.bl false)))))) (fRet (fC (.bl false))) fSkip))))
theorem fr_body {f : Int} {p : Nat} {a0 a1 x2 x3 x4 x7 x8 x9 x10 x11 : Option Sl} {S : Store} (f1 : 1 ≤ f) (f2 : f ≤ 100) (fo : f % 2 = 1) (hp1 : 11 ≤ p) (hp2 : p ≤ 60) : ∃ y7 y8,
    bFr fuel [a0, a1, x2, x3, x4, some (.fz (.int f)), some (.fz (.int p)), x7, x8, x9, none, none] S = .nx [a0, a1, x2, x3, x4, some (.fz (.int f)), some (.fz (.int p)), y7, y8, x9, none, none] S := by
  have hb1 := pow2_mono hp1
  have hb2 := pow2_mono hp2
  have hs : isSh f p = true := isSh_of f1 fo (by omega) (by omega) (by omega) (by omega)
  obtain ⟨g, hg⟩ : ∃ g, g = f * 2 ^ p + 1 := ⟨_, rfl⟩
  obtain ⟨_, _, _, _, a5, a6, a7⟩ := isSh_great hs
  rw [← shape_ep hg] at a5 a6 a7
  have ha := fun S => law_above (S := S) (f := f) (p := p) (by omega) (by omega)
  rw [← shape_ep hg] at ha
  have ms := fun S => shape_prime' hs hg S
  have gbig : 2 ^ 11 < g := by
    have : 1 * 2 ^ p ≤ f * 2 ^ p := Int.mul_le_mul_of_nonneg_right f1 (by omega)
    omega
  have hh : ∀ b S, m__law_half [.int b, .int g] S = .ok (.int (hf b g)) S := fun b S => law_half a5 a6 a7
  obtain ⟨q, hq⟩ : ∃ q, p = q + 1 := ⟨p - 1, by omega⟩
  have flt : f < 2 ^ (q + 1) := by rw [← hq]; omega
  have hg' : g = f * 2 ^ (q + 1) + 1 := by rw [← hq]; exact hg
  have pr1 : ∀ b, hf b g = g - 1 → pmb g = true := fun b z => pmb_iff.mpr (proth hg' f1 flt z)
  have pr2 : pmb g = true → ∀ b, 2 ≤ b → b ≤ 13 → hf b g ≠ g - 1 → hf b g = 1 := fun z b b1 b2 b3 => by
    have hp := pmb_iff.mp z
    have hn : ¬ g ∣ b := not_dvd_small (by omega) (by omega)
    have e := sgn_prime (a := b) hp (by omega) a7
    rw [sgn_J (by omega) a7] at e
    rcases hp.J_ne hn with w | w
    · exact e.1.mp w
    · exact absurd (e.2.1.mp w) b3
  have hr : lcL (gN 10) (fYes fuel) (fCall m__law_half (fCons (fVar 10) (fCons (fVar 7) fNil)) fuel) [.int 3, .int 5, .int 7, .int 11, .int 13] [a0, a1, x2, x3, x4, some (.fz (.int f)), some (.fz (.int p)), some (.fz (.int g)), x8, x9, none, none] S = .ok [.int (hf 3 g), .int (hf 5 g), .int (hf 7 g), .int (hf 11 g), .int (hf 13 g)] S := by
    simp [lcL, hh]
  obtain ⟨R, hR⟩ : ∃ R, R = [hf 3 g, hf 5 g, hf 7 g, hf 11 g, hf 13 g] := ⟨_, rfl⟩
  have hR2 : [D.int (hf 3 g), .int (hf 5 g), .int (hf 7 g), .int (hf 11 g), .int (hf 13 g)] = R.map D.int := by rw [hR]; rfl
  rw [hR2] at hr
  have i1 := in_lst (i := g - 1) (ns := R)
  have i2 := nin_lst (i := g - 1) (ns := R)
  have lR : R.length ≤ 1000000 := by rw [hR]; simp
  have lc := lcL_int (g := gN 11) (c := fBool (fOp gNe (fRd 11) (fC (.int 1))) fuel) (e := fVar 11 fuel) (E := [a0, a1, x2, x3, x4, some (.fz (.int f)), some (.fz (.int p)), some (.fz (.int g)), some (.fz (.lst (R.map D.int))), x9, none, none]) (S := S) (fun n => !decide (n = 1)) D.int R (fun n _ => ⟨_, rfl, by simp, fun _ => by simp⟩)
  refine ⟨some (.fz (.int g)), some (.fz (.lst (R.map D.int))), ?_⟩
  have st0 : fSet 7 (fCall m__law_above (fCons (fVar 5) (fCons (fVar 6) fNil))) fuel [a0, a1, x2, x3, x4, some (.fz (.int f)), some (.fz (.int p)), x7, x8, x9, none, none] S = .nx [a0, a1, x2, x3, x4, some (.fz (.int f)), some (.fz (.int p)), some (.fz (.int g)), x8, x9, none, none] S := by
    simp [ha]
  have st1 : fSet 8 (fLc (fIt (fTup (fCons (fC (.int 3)) (fCons (fC (.int 5)) (fCons (fC (.int 7)) (fCons (fC (.int 11)) (fCons (fC (.int 13)) fNil))))))) (gN 10) fYes (fCall m__law_half (fCons (fVar 10) (fCons (fVar 7) fNil))) [10]) fuel [a0, a1, x2, x3, x4, some (.fz (.int f)), some (.fz (.int p)), some (.fz (.int g)), x8, x9, none, none] S = .nx [a0, a1, x2, x3, x4, some (.fz (.int f)), some (.fz (.int p)), some (.fz (.int g)), some (.fz (.lst (R.map D.int))), x9, none, none] S := by
    simp [fLc, fIt, wipeE, hr]
  rw [show bFr = fSeq _ _ from rfl, seq_nx st0, seq_nx st1]
  by_cases c : (R.any fun n => n == g - 1) = true
  · have hp : pmb g = true := by
      rw [List.any_eq_true] at c
      obtain ⟨x, hx, e⟩ := c
      have e : x = g - 1 := by simpa using e
      rw [hR] at hx
      simp only [List.mem_cons, List.not_mem_nil, or_false] at hx
      rcases hx with z | z | z | z | z <;> exact pr1 _ (by rw [← z]; exact e)
    rw [hp] at ms
    rw [c] at i1 i2
    simp [i1, i2, ms, gIsNB]
  · have c : (R.any fun n => n == g - 1) = false := by cases h : (R.any fun n => n == g - 1) with
      | false => rfl
      | true => exact absurd h c
    rw [c] at i1 i2
    cases hp : pmb g with
    | false =>
      rw [hp] at ms
      cases hF : R.filter (fun n => !decide (n = 1)) with
      | nil => rw [hF] at lc; simp [i1, i2, ms, gIsNB, fLc, fIt, wipeE, lR, lc, ne_nil_nil]
      | cons z l => rw [hF] at lc; have := ne_nil (ns := z :: l); simp at this; simp [i1, i2, ms, gIsNB, fLc, fIt, wipeE, lR, lc, this]
    | true =>
      have hall : R.filter (fun n => !decide (n = 1)) = [] := by
        rw [List.filter_eq_nil_iff]
        intro x hx
        have hx1 : x ≠ g - 1 := by
          intro z
          have := (List.any_eq_false.mp c) x hx
          simp [z] at this
        rw [hR] at hx
        simp only [List.mem_cons, List.not_mem_nil, or_false] at hx
        have : x = 1 := by
          rcases hx with z | z | z | z | z <;> subst z <;> exact pr2 hp _ (by decide) (by decide) hx1
        simp [this]
      rw [hall] at lc
      have lc : lcL (gN 11) (fBool (fOp gNe (fRd 11) (fC (.int 1))) fuel) (fVar 11 fuel) (R.map D.int) [a0, a1, x2, x3, x4, some (.fz (.int f)), some (.fz (.int p)), some (.fz (.int g)), some (.fz (.lst (R.map D.int))), x9, none, none] S = .ok [] S := lc
      simp [i1, i2, fLc, fIt, wipeE, lR, lc, ne_nil_nil]
end LW

end

section
set_option autoImplicit false
set_option autoImplicit false
namespace LW
open PySem PySem.Spec PyProof.Rows L2 DL NT
theorem for_nx {t : Tgt} {b : DL.Env → Store → SRes} {d : D} {l : List D} {E E1 E2 : DL.Env} {S S2 : Store} (h1 : t d E = some E1) (h2 : b E1 S = .nx E2 S2) : forL t b (d :: l) E S = forL t b l E2 S2 := by
  simp only [forL, h1, h2]
theorem fr_loop {p : Nat} {a0 a1 x2 x3 x4 x9 : Option Sl} {S : Store} (hp1 : 11 ≤ p) (hp2 : p ≤ 60) : ∀ (fs : List Int) (x5 x7 x8 : Option Sl), (∀ f ∈ fs, 1 ≤ f ∧ f ≤ 100 ∧ f % 2 = 1) → ∃ y5 y7 y8,
    forL (gN 5) (bFr fuel) (fs.map D.int) [a0, a1, x2, x3, x4, x5, some (.fz (.int p)), x7, x8, x9, none, none] S = .nx [a0, a1, x2, x3, x4, y5, some (.fz (.int p)), y7, y8, x9, none, none] S
  | [], x5, x7, x8, _ => ⟨x5, x7, x8, rfl⟩
  | f :: fs, x5, x7, x8, h => by
    obtain ⟨f1, f2, f3⟩ := h f (List.mem_cons_self ..)
    obtain ⟨y7, y8, e⟩ := fr_body (a0 := a0) (a1 := a1) (x2 := x2) (x3 := x3) (x4 := x4) (x7 := x7) (x8 := x8) (x9 := x9) (x10 := none) (x11 := none) (S := S) f1 f2 f3 hp1 hp2
    obtain ⟨z5, z7, z8, ih⟩ := fr_loop (a0 := a0) (a1 := a1) (x2 := x2) (x3 := x3) (x4 := x4) (x9 := x9) (S := S) hp1 hp2 fs (some (.fz (.int f))) y7 y8 fun x hx => h x (List.mem_cons_of_mem _ hx)
    refine ⟨z5, z7, z8, ?_⟩
    rw [List.map_cons, for_nx (by rw [e_gN]; rfl) e]
    exact ih
theorem law_some4 {a b c d : D} {S : Store} (hc : Cup S) : ∃ S' r, Cup S' ∧ (r = a ∨ r = b ∨ r = c ∨ r = d) ∧ m__law_some [.hd 0, .lst [a, b, c, d]] S = .ok r S' := by
  obtain ⟨x, S', r1, r2, r3, r4⟩ := law_roll hc (k := 4) (by decide) (by decide)
  have hx : x = 0 ∨ x = 1 ∨ x = 2 ∨ x = 3 := by omega
  have gl : gLen [.lst [a, b, c, d]] = some (.int 4) := rfl
  rcases hx with rfl | rfl | rfl | rfl
  · exact ⟨S', a, r2, .inl rfl, by simp [m__law_some, f__law_some, N__law_some, startE, gl, r1, show gIx (.lst [a, b, c, d]) (.int 0) = some a from rfl]⟩
  · exact ⟨S', b, r2, .inr (.inl rfl), by simp [m__law_some, f__law_some, N__law_some, startE, gl, r1, show gIx (.lst [a, b, c, d]) (.int 1) = some b from rfl]⟩
  · exact ⟨S', c, r2, .inr (.inr (.inl rfl)), by simp [m__law_some, f__law_some, N__law_some, startE, gl, r1, show gIx (.lst [a, b, c, d]) (.int 2) = some c from rfl]⟩
  · exact ⟨S', d, r2, .inr (.inr (.inr rfl)), by simp [m__law_some, f__law_some, N__law_some, startE, gl, r1, show gIx (.lst [a, b, c, d]) (.int 3) = some d from rfl]⟩
theorem last_check {f g : Int} {p : Nat} {b : Int} {S : Store} (hs : isSh f p = true) (hg : g = f * 2 ^ p + 1) (hp : pmb g = true) (g5 : 5 ≤ g) (b1 : 2 ≤ b) (b2 : b < g) : ∃ z : Bool, m_is_proth_paper [.int f, .int p, .int b] S = .ok (.bl z) S ∧ m__law_sign [.int b, .int g] S = .ok (.int (sgn b g)) S ∧ decide (sgn b g = -1) = z := by
  obtain ⟨_, _, _, _, a5, a6, a7⟩ := isSh_great hs
  rw [← shape_ep hg] at a5 a6 a7
  have hb := small_great hs
  rw [← shape_ep hg] at hb
  refine ⟨_, is_proth_int hs hg, law_sign (by omega) hb, ?_⟩
  have e := (sgn_prime (a := b) (pmb_iff.mp hp) (by omega) a7).2.1
  have e0 : b ^ (g / 2).toNat % g = hf b g := rfl
  rw [e0] at e
  by_cases c : sgn b g = -1
  · simp [c, e.mp c, b1, b2]
  · have : hf b g ≠ g - 1 := fun z => c (e.mpr z)
    simp [c, this]
theorem law_true (ns : List Int) (hn : ns.length ≤ 63) : ∃ S, m_law [.scr ns] [] = .ok (.bl true) S := by
  obtain ⟨S0, q0, u0⟩ := law_cup hn
  obtain ⟨S1, y4, y5, y6, u1, q1⟩ := shapes_loop (sm := true) (a0 := some (.fz (.scr ns))) (x2 := some (.fz (.lst [.bl true, .bl false, .bl true, .bl false, .non, .bl true, .int 2]))) (x3 := some (.fz (.lst [.tup [.int 3, .int 12, .int 12289], .tup [.int 5, .int 13, .int 40961], .tup [.int 1, .int 16, .int 65537], .tup [.int 3, .int 18, .int 786433], .tup [.int 7, .int 20, .int 7340033], .tup [.int 5, .int 25, .int 167772161]]))) (x7 := none) (x8 := none) (x9 := none) (x10 := none) (x11 := none) [1, 3, 6, 10] (by decide) S0 none none none u0
  obtain ⟨S2, z4, z5, z6, u2, q2⟩ := shapes_loop (sm := false) (a0 := some (.fz (.scr ns))) (x2 := some (.fz (.lst [.bl true, .bl false, .bl true, .bl false, .non, .bl true, .int 2]))) (x3 := some (.fz (.lst [.tup [.int 3, .int 12, .int 12289], .tup [.int 5, .int 13, .int 40961], .tup [.int 1, .int 16, .int 65537], .tup [.int 3, .int 18, .int 786433], .tup [.int 7, .int 20, .int 7340033], .tup [.int 5, .int 25, .int 167772161]]))) (x7 := none) (x8 := none) (x9 := none) (x10 := none) (x11 := none) [30, 110] (by decide) S1 y4 y5 y6 u1
  obtain ⟨x3, S3, q3, u3, b1, b2⟩ := law_roll u2 (k := 50) (by decide) (by decide)
  obtain ⟨p, hp⟩ : ∃ p : Nat, 11 + x3 = p := ⟨(11 + x3).toNat, by omega⟩
  obtain ⟨w5, w7, w8, q4⟩ := fr_loop (p := p) (a0 := some (.fz (.scr ns))) (a1 := some (.fz (.hd 0))) (x2 := some (.fz (.lst [.bl true, .bl false, .bl true, .bl false, .non, .bl true, .int 2]))) (x3 := some (.fz (.lst [.tup [.int 3, .int 12, .int 12289], .tup [.int 5, .int 13, .int 40961], .tup [.int 1, .int 16, .int 65537], .tup [.int 3, .int 18, .int 786433], .tup [.int 7, .int 20, .int 7340033], .tup [.int 5, .int 25, .int 167772161]]))) (x4 := z4) (x9 := none) (S := S3) (by omega) (by omega) (rngI 1 2 (rsz 1 100 2)) z5 none none (fun f hf => by
    obtain ⟨k, e, h⟩ := (mem_rsz (by decide)).mp hf
    omega)
  have r3 := rng3_ok (i := 1) (j := 100) (c := 2) (by decide) (by decide) (by decide) (by decide) (by decide) (by decide)
  obtain ⟨S5, r, u5, hr, q5⟩ := law_some4 (a := .tup [.int 3, .int 12]) (b := .tup [.int 7, .int 20]) (c := .tup [.int 119, .int 23]) (d := .tup [.int 5, .int 25]) u3
  have lkT := fun S => like (S := S) (d := .lst [.bl true, .bl false, .bl true, .bl false, .non, .bl true, .int 2]) (by rfl)
  have lk3 : ∀ (a : Int) S, m__law_like [.lst [.int a, .bl false, .non], .lst [.int a, .bl false, .non]] S = .ok (.bl true) S := fun a S => like rfl
  have lk2 : ∀ (a : Int) S, m__law_like [.lst [.int a, .bl true], .lst [.int a, .bl true]] S = .ok (.bl true) S := fun a S => like rfl
  have hsh : ∃ (f g : Int) (p : Nat), r = .tup [.int f, .int p] ∧ isSh f p = true ∧ g = f * 2 ^ p + 1 ∧ pmb g = true ∧ 5 ≤ g ∧ g < 2 ^ 62 := by
    rcases hr with rfl | rfl | rfl | rfl
    · exact ⟨3, 12289, 12, rfl, by decide +kernel, by decide, pm1, by decide, by decide⟩
    · exact ⟨7, 7340033, 20, rfl, by decide +kernel, by decide, pm5, by decide, by decide⟩
    · exact ⟨119, 998244353, 23, rfl, by decide +kernel, by decide, pm8, by decide, by decide⟩
    · exact ⟨5, 167772161, 25, rfl, by decide +kernel, by decide, pm6, by decide, by decide⟩
  obtain ⟨f, g, pp, rfl, hs, hg, hpm, g5, g62⟩ := hsh
  obtain ⟨_, _, a3, a4, _, _, _⟩ := isSh_great hs
  have ha := fun S => law_above (S := S) (f := f) (p := pp) (by omega) (by omega)
  rw [← shape_ep hg] at ha
  obtain ⟨x6, S6, q6, u6, b3, b4⟩ := law_roll u5 (k := g - 2) (by omega) (by omega)
  obtain ⟨z, v1, v2, v3⟩ := last_check (b := 2 + x6) (S := S6) hs hg hpm g5 (by omega) (by omega)
  have lkb : ∀ S, m__law_like [.bl z, .bl z] S = .ok (.bl true) S := fun S => like rfl
  refine ⟨S6, ?_⟩
  have st0 : (fSet 1 (fCall m__law_cup (fCons (fVar 0) fNil))) fuel [some (.fz (.scr ns)), none, none, none, none, none, none, none, none, none, none, none] [] = .nx [some (.fz (.scr ns)), some (.fz (.hd 0)), none, none, none, none, none, none, none, none, none, none] S0 := by
    simp [q0]
  have st1 : (fSet 2 (fLst (fCons (fCall m_is_shape_prime (fCons (fC (.int 3)) (fCons (fC (.int 2)) fNil))) (fCons (fCall m_is_shape_prime (fCons (fC (.int 1)) (fCons (fC (.int 3)) fNil))) (fCons (fCall m_is_proth_paper (fCons (fC (.int 3)) (fCons (fC (.int 2)) (fCons (fC (.int 2)) fNil)))) (fCons (fCall m_is_proth_paper (fCons (fC (.int 3)) (fCons (fC (.int 2)) (fCons (fC (.int 3)) fNil)))) (fCons (fCall m_proth_paper (fCons (fC (.int 1)) (fCons (fC (.int 3)) fNil))) fNil))))))) fuel [some (.fz (.scr ns)), some (.fz (.hd 0)), none, none, none, none, none, none, none, none, none, none] S0 = .nx [some (.fz (.scr ns)), some (.fz (.hd 0)), some (.fz (.lst [.bl true, .bl false, .bl true, .bl false, .non])), none, none, none, none, none, none, none, none, none] S0 := by
    simp [k1, k2, k3, k4, k5]
  have st2 : (fSet 2 (fOp gAdd (fRd 2) (fLst (fCons (fCall m_is_proth_paper (fCons (fC (.int 1)) (fCons (fC (.int 1)) (fCons (fC (.int 2)) fNil)))) (fCons (fCall m_proth_paper (fCons (fC (.int 1)) (fCons (fC (.int 1)) fNil))) fNil))))) fuel [some (.fz (.scr ns)), some (.fz (.hd 0)), some (.fz (.lst [.bl true, .bl false, .bl true, .bl false, .non])), none, none, none, none, none, none, none, none, none] S0 = .nx [some (.fz (.scr ns)), some (.fz (.hd 0)), some (.fz (.lst [.bl true, .bl false, .bl true, .bl false, .non, .bl true, .int 2])), none, none, none, none, none, none, none, none, none] S0 := by
    simp [k6, k7, o_addL (show [D.bl true, .bl false, .bl true, .bl false, .non].length + [D.bl true, .int 2].length ≤ sizeLine by decide)]
  have st3 : (fIfS (fNotT (fBool (fCall m__law_like (fCons (fVar 2) (fCons (fLst (fCons (fC (.bl true)) (fCons (fC (.bl false)) (fCons (fC (.bl true)) (fCons (fC (.bl false)) (fCons (fC .non) (fCons (fC (.bl true)) (fCons (fC (.int 2)) fNil)))))))) fNil))))) (fRet (fC (.bl false))) fSkip) fuel [some (.fz (.scr ns)), some (.fz (.hd 0)), some (.fz (.lst [.bl true, .bl false, .bl true, .bl false, .non, .bl true, .int 2])), none, none, none, none, none, none, none, none, none] S0 = .nx [some (.fz (.scr ns)), some (.fz (.hd 0)), some (.fz (.lst [.bl true, .bl false, .bl true, .bl false, .non, .bl true, .int 2])), none, none, none, none, none, none, none, none, none] S0 := by
    simp [lkT]
  have st4 : (fSet 3 (fLst (fCons (fTup (fCons (fC (.int 3)) (fCons (fC (.int 12)) (fCons (fC (.int 12289)) fNil)))) (fCons (fTup (fCons (fC (.int 5)) (fCons (fC (.int 13)) (fCons (fC (.int 40961)) fNil)))) (fCons (fTup (fCons (fC (.int 1)) (fCons (fC (.int 16)) (fCons (fC (.int 65537)) fNil)))) (fCons (fTup (fCons (fC (.int 3)) (fCons (fC (.int 18)) (fCons (fC (.int 786433)) fNil)))) (fCons (fTup (fCons (fC (.int 7)) (fCons (fC (.int 20)) (fCons (fC (.int 7340033)) fNil)))) (fCons (fTup (fCons (fC (.int 5)) (fCons (fC (.int 25)) (fCons (fC (.int 167772161)) fNil)))) fNil)))))))) fuel [some (.fz (.scr ns)), some (.fz (.hd 0)), some (.fz (.lst [.bl true, .bl false, .bl true, .bl false, .non, .bl true, .int 2])), none, none, none, none, none, none, none, none, none] S0 = .nx [some (.fz (.scr ns)), some (.fz (.hd 0)), some (.fz (.lst [.bl true, .bl false, .bl true, .bl false, .non, .bl true, .int 2])), some (.fz (.lst [.tup [.int 3, .int 12, .int 12289], .tup [.int 5, .int 13, .int 40961], .tup [.int 1, .int 16, .int 65537], .tup [.int 3, .int 18, .int 786433], .tup [.int 7, .int 20, .int 7340033], .tup [.int 5, .int 25, .int 167772161]])), none, none, none, none, none, none, none, none] S0 := by
    simp []
  have st5 : (fFor (fIt (fTup (fCons (fC (.int 1)) (fCons (fC (.int 3)) (fCons (fC (.int 6)) (fCons (fC (.int 10)) fNil)))))) (gN 4) (fSeq (fAsg (gT (gConss (gN 5) (gConss (gN 6) gNils))) (fCall m__law_shape (fCons (fVar 1) (fCons (fVar 4) fNil)))) (fIfS (fNotT (fBool (fCall m__law_right (fCons (fVar 1) (fCons (fVar 5) (fCons (fVar 6) (fCons (fC (.bl true)) fNil))))))) (fRet (fC (.bl false))) fSkip))) fuel [some (.fz (.scr ns)), some (.fz (.hd 0)), some (.fz (.lst [.bl true, .bl false, .bl true, .bl false, .non, .bl true, .int 2])), some (.fz (.lst [.tup [.int 3, .int 12, .int 12289], .tup [.int 5, .int 13, .int 40961], .tup [.int 1, .int 16, .int 65537], .tup [.int 3, .int 18, .int 786433], .tup [.int 7, .int 20, .int 7340033], .tup [.int 5, .int 25, .int 167772161]])), none, none, none, none, none, none, none, none] S0 = .nx [some (.fz (.scr ns)), some (.fz (.hd 0)), some (.fz (.lst [.bl true, .bl false, .bl true, .bl false, .non, .bl true, .int 2])), some (.fz (.lst [.tup [.int 3, .int 12, .int 12289], .tup [.int 5, .int 13, .int 40961], .tup [.int 1, .int 16, .int 65537], .tup [.int 3, .int 18, .int 786433], .tup [.int 7, .int 20, .int 7340033], .tup [.int 5, .int 25, .int 167772161]])), y4, y5, y6, none, none, none, none, none] S1 := by
    simp only [e_For, fIt, e_Tup, e_Cons, e_Nil, e_C, e_bind_ok]
    simpa using q1
  have st6 : (fFor (fIt (fTup (fCons (fC (.int 30)) (fCons (fC (.int 110)) fNil)))) (gN 4) (fSeq (fAsg (gT (gConss (gN 5) (gConss (gN 6) gNils))) (fCall m__law_shape (fCons (fVar 1) (fCons (fVar 4) fNil)))) (fIfS (fNotT (fBool (fCall m__law_right (fCons (fVar 1) (fCons (fVar 5) (fCons (fVar 6) (fCons (fC (.bl false)) fNil))))))) (fRet (fC (.bl false))) fSkip))) fuel [some (.fz (.scr ns)), some (.fz (.hd 0)), some (.fz (.lst [.bl true, .bl false, .bl true, .bl false, .non, .bl true, .int 2])), some (.fz (.lst [.tup [.int 3, .int 12, .int 12289], .tup [.int 5, .int 13, .int 40961], .tup [.int 1, .int 16, .int 65537], .tup [.int 3, .int 18, .int 786433], .tup [.int 7, .int 20, .int 7340033], .tup [.int 5, .int 25, .int 167772161]])), y4, y5, y6, none, none, none, none, none] S1 = .nx [some (.fz (.scr ns)), some (.fz (.hd 0)), some (.fz (.lst [.bl true, .bl false, .bl true, .bl false, .non, .bl true, .int 2])), some (.fz (.lst [.tup [.int 3, .int 12, .int 12289], .tup [.int 5, .int 13, .int 40961], .tup [.int 1, .int 16, .int 65537], .tup [.int 3, .int 18, .int 786433], .tup [.int 7, .int 20, .int 7340033], .tup [.int 5, .int 25, .int 167772161]])), z4, z5, z6, none, none, none, none, none] S2 := by
    simp only [e_For, fIt, e_Tup, e_Cons, e_Nil, e_C, e_bind_ok]
    simpa using q2
  have st7 : (fSet 6 (fOp gAdd (fC (.int 11)) (fCall m__law_roll (fCons (fVar 1) (fCons (fC (.int 50)) fNil))))) fuel [some (.fz (.scr ns)), some (.fz (.hd 0)), some (.fz (.lst [.bl true, .bl false, .bl true, .bl false, .non, .bl true, .int 2])), some (.fz (.lst [.tup [.int 3, .int 12, .int 12289], .tup [.int 5, .int 13, .int 40961], .tup [.int 1, .int 16, .int 65537], .tup [.int 3, .int 18, .int 786433], .tup [.int 7, .int 20, .int 7340033], .tup [.int 5, .int 25, .int 167772161]])), z4, z5, z6, none, none, none, none, none] S2 = .nx [some (.fz (.scr ns)), some (.fz (.hd 0)), some (.fz (.lst [.bl true, .bl false, .bl true, .bl false, .non, .bl true, .int 2])), some (.fz (.lst [.tup [.int 3, .int 12, .int 12289], .tup [.int 5, .int 13, .int 40961], .tup [.int 1, .int 16, .int 65537], .tup [.int 3, .int 18, .int 786433], .tup [.int 7, .int 20, .int 7340033], .tup [.int 5, .int 25, .int 167772161]])), z4, z5, some (.fz (.int p)), none, none, none, none, none] S3 := by
    simp [q3, hp]
  have st8 : (fFor (fLift rng3? (fCons (fC (.int 1)) (fCons (fC (.int 100)) (fCons (fC (.int 2)) fNil)))) (gN 5) (fSeq (fSet 7 (fCall m__law_above (fCons (fVar 5) (fCons (fVar 6) fNil)))) (fSeq (fSet 8 (fLc (fIt (fTup (fCons (fC (.int 3)) (fCons (fC (.int 5)) (fCons (fC (.int 7)) (fCons (fC (.int 11)) (fCons (fC (.int 13)) fNil))))))) (gN 10) fYes (fCall m__law_half (fCons (fVar 10) (fCons (fVar 7) fNil))) [10])) (fSeq (fIfS (fAndT (fBool (fOp gIn (fOp gSub (fRd 7) (fC (.int 1))) (fRd 8))) (fBool (fOp gIsNB (fCall m_is_shape_prime (fCons (fVar 5) (fCons (fVar 6) fNil))) (fC (.bl true))))) (fRet (fC (.bl false))) fSkip) (fIfS (fAndT (fBool (fOp gNin (fOp gSub (fRd 7) (fC (.int 1))) (fRd 8))) (fAndT (fBool (fOp gNe (fLc (fIt (fVar 8)) (gN 11) (fBool (fOp gNe (fRd 11) (fC (.int 1)))) (fVar 11) [11]) (fLst fNil))) (fBool (fOp gIsNB (fCall m_is_shape_prime (fCons (fVar 5) (fCons (fVar 6) fNil))) (fC (.bl false)))))) (fRet (fC (.bl false))) fSkip))))) fuel [some (.fz (.scr ns)), some (.fz (.hd 0)), some (.fz (.lst [.bl true, .bl false, .bl true, .bl false, .non, .bl true, .int 2])), some (.fz (.lst [.tup [.int 3, .int 12, .int 12289], .tup [.int 5, .int 13, .int 40961], .tup [.int 1, .int 16, .int 65537], .tup [.int 3, .int 18, .int 786433], .tup [.int 7, .int 20, .int 7340033], .tup [.int 5, .int 25, .int 167772161]])), z4, z5, some (.fz (.int p)), none, none, none, none, none] S3 = .nx [some (.fz (.scr ns)), some (.fz (.hd 0)), some (.fz (.lst [.bl true, .bl false, .bl true, .bl false, .non, .bl true, .int 2])), some (.fz (.lst [.tup [.int 3, .int 12, .int 12289], .tup [.int 5, .int 13, .int 40961], .tup [.int 1, .int 16, .int 65537], .tup [.int 3, .int 18, .int 786433], .tup [.int 7, .int 20, .int 7340033], .tup [.int 5, .int 25, .int 167772161]])), z4, w5, some (.fz (.int p)), w7, w8, none, none, none] S3 := by
    simp only [e_For, e_Lift, e_Cons, e_Nil, e_C, e_bind_ok, r3]
    exact q4
  have st9 : (fFor (fIt (fTup (fCons (fTup (fCons (fC (.int 1)) (fCons (fC (.int 3)) (fCons (fC (.int 3)) fNil)))) (fCons (fTup (fCons (fC (.int 3)) (fCons (fC (.int 3)) (fCons (fC (.int 5)) fNil)))) (fCons (fTup (fCons (fC (.int 9)) (fCons (fC (.int 5)) (fCons (fC (.int 17)) fNil)))) fNil))))) (gT (gConss (gN 5) (gConss (gN 6) (gConss (gN 9) gNils)))) (fIfS (fNotT (fBool (fCall m__law_like (fCons (fLst (fCons (fCall m_number_above (fCons (fVar 5) (fCons (fVar 6) fNil))) (fCons (fCall m_is_shape_prime (fCons (fVar 5) (fCons (fVar 6) fNil))) (fCons (fCall m_proth_paper (fCons (fVar 5) (fCons (fVar 6) fNil))) fNil)))) (fCons (fLst (fCons (fOp gMul (fRd 9) (fRd 9)) (fCons (fC (.bl false)) (fCons (fC .non) fNil)))) fNil))))) (fRet (fC (.bl false))) fSkip)) fuel [some (.fz (.scr ns)), some (.fz (.hd 0)), some (.fz (.lst [.bl true, .bl false, .bl true, .bl false, .non, .bl true, .int 2])), some (.fz (.lst [.tup [.int 3, .int 12, .int 12289], .tup [.int 5, .int 13, .int 40961], .tup [.int 1, .int 16, .int 65537], .tup [.int 3, .int 18, .int 786433], .tup [.int 7, .int 20, .int 7340033], .tup [.int 5, .int 25, .int 167772161]])), z4, w5, some (.fz (.int p)), w7, w8, none, none, none] S3 = .nx [some (.fz (.scr ns)), some (.fz (.hd 0)), some (.fz (.lst [.bl true, .bl false, .bl true, .bl false, .non, .bl true, .int 2])), some (.fz (.lst [.tup [.int 3, .int 12, .int 12289], .tup [.int 5, .int 13, .int 40961], .tup [.int 1, .int 16, .int 65537], .tup [.int 3, .int 18, .int 786433], .tup [.int 7, .int 20, .int 7340033], .tup [.int 5, .int 25, .int 167772161]])), z4, some (.fz (.int 9)), some (.fz (.int 5)), w7, w8, some (.fz (.int 17)), none, none] S3 := by
    simp [fIt, e_forL_cons, s1, s2, s3, k2, k5, k8, k9, k10, k11, o_mul (show mulOk 3 3 = true by decide), o_mul (show mulOk 5 5 = true by decide), o_mul (show mulOk 17 17 = true by decide), lk3]
  have st10 : (fFor (fIt (fOp gAdd (fRd 3) (fLst (fCons (fTup (fCons (fC (.int 7)) (fCons (fC (.int 26)) (fCons (fC (.int 469762049)) fNil)))) (fCons (fTup (fCons (fC (.int 119)) (fCons (fC (.int 23)) (fCons (fC (.int 998244353)) fNil)))) fNil))))) (gT (gConss (gN 5) (gConss (gN 6) (gConss (gN 7) gNils)))) (fIfS (fNotT (fBool (fCall m__law_like (fCons (fLst (fCons (fCall m_number_above (fCons (fVar 5) (fCons (fVar 6) fNil))) (fCons (fCall m_is_shape_prime (fCons (fVar 5) (fCons (fVar 6) fNil))) fNil))) (fCons (fLst (fCons (fVar 7) (fCons (fC (.bl true)) fNil))) fNil))))) (fRet (fC (.bl false))) fSkip)) fuel [some (.fz (.scr ns)), some (.fz (.hd 0)), some (.fz (.lst [.bl true, .bl false, .bl true, .bl false, .non, .bl true, .int 2])), some (.fz (.lst [.tup [.int 3, .int 12, .int 12289], .tup [.int 5, .int 13, .int 40961], .tup [.int 1, .int 16, .int 65537], .tup [.int 3, .int 18, .int 786433], .tup [.int 7, .int 20, .int 7340033], .tup [.int 5, .int 25, .int 167772161]])), z4, some (.fz (.int 9)), some (.fz (.int 5)), w7, w8, some (.fz (.int 17)), none, none] S3 = .nx [some (.fz (.scr ns)), some (.fz (.hd 0)), some (.fz (.lst [.bl true, .bl false, .bl true, .bl false, .non, .bl true, .int 2])), some (.fz (.lst [.tup [.int 3, .int 12, .int 12289], .tup [.int 5, .int 13, .int 40961], .tup [.int 1, .int 16, .int 65537], .tup [.int 3, .int 18, .int 786433], .tup [.int 7, .int 20, .int 7340033], .tup [.int 5, .int 25, .int 167772161]])), z4, some (.fz (.int 119)), some (.fz (.int 23)), some (.fz (.int 998244353)), w8, some (.fz (.int 17)), none, none] S3 := by
    simp [fIt, e_forL_cons, o_addL (show [D.tup [.int 3, .int 12, .int 12289], D.tup [.int 5, .int 13, .int 40961], D.tup [.int 1, .int 16, .int 65537], D.tup [.int 3, .int 18, .int 786433], D.tup [.int 7, .int 20, .int 7340033], D.tup [.int 5, .int 25, .int 167772161]].length + [D.tup [.int 7, .int 26, .int 469762049], .tup [.int 119, .int 23, .int 998244353]].length ≤ sizeLine by decide), n1, n2, n3, n4, n5, n6, n7, n8, p1, p2, p3, p4, p5, p6, p7, p8, lk2]
  have st11 : (fAsg (gT (gConss (gN 5) (gConss (gN 6) gNils))) (fCall m__law_some (fCons (fVar 1) (fCons (fLst (fCons (fTup (fCons (fC (.int 3)) (fCons (fC (.int 12)) fNil))) (fCons (fTup (fCons (fC (.int 7)) (fCons (fC (.int 20)) fNil))) (fCons (fTup (fCons (fC (.int 119)) (fCons (fC (.int 23)) fNil))) (fCons (fTup (fCons (fC (.int 5)) (fCons (fC (.int 25)) fNil))) fNil))))) fNil)))) fuel [some (.fz (.scr ns)), some (.fz (.hd 0)), some (.fz (.lst [.bl true, .bl false, .bl true, .bl false, .non, .bl true, .int 2])), some (.fz (.lst [.tup [.int 3, .int 12, .int 12289], .tup [.int 5, .int 13, .int 40961], .tup [.int 1, .int 16, .int 65537], .tup [.int 3, .int 18, .int 786433], .tup [.int 7, .int 20, .int 7340033], .tup [.int 5, .int 25, .int 167772161]])), z4, some (.fz (.int 119)), some (.fz (.int 23)), some (.fz (.int 998244353)), w8, some (.fz (.int 17)), none, none] S3 = .nx [some (.fz (.scr ns)), some (.fz (.hd 0)), some (.fz (.lst [.bl true, .bl false, .bl true, .bl false, .non, .bl true, .int 2])), some (.fz (.lst [.tup [.int 3, .int 12, .int 12289], .tup [.int 5, .int 13, .int 40961], .tup [.int 1, .int 16, .int 65537], .tup [.int 3, .int 18, .int 786433], .tup [.int 7, .int 20, .int 7340033], .tup [.int 5, .int 25, .int 167772161]])), z4, some (.fz (.int f)), some (.fz (.int pp)), some (.fz (.int 998244353)), w8, some (.fz (.int 17)), none, none] S5 := by
    simp [q5]
  have st12 : (fSet 7 (fCall m__law_above (fCons (fVar 5) (fCons (fVar 6) fNil)))) fuel [some (.fz (.scr ns)), some (.fz (.hd 0)), some (.fz (.lst [.bl true, .bl false, .bl true, .bl false, .non, .bl true, .int 2])), some (.fz (.lst [.tup [.int 3, .int 12, .int 12289], .tup [.int 5, .int 13, .int 40961], .tup [.int 1, .int 16, .int 65537], .tup [.int 3, .int 18, .int 786433], .tup [.int 7, .int 20, .int 7340033], .tup [.int 5, .int 25, .int 167772161]])), z4, some (.fz (.int f)), some (.fz (.int pp)), some (.fz (.int 998244353)), w8, some (.fz (.int 17)), none, none] S5 = .nx [some (.fz (.scr ns)), some (.fz (.hd 0)), some (.fz (.lst [.bl true, .bl false, .bl true, .bl false, .non, .bl true, .int 2])), some (.fz (.lst [.tup [.int 3, .int 12, .int 12289], .tup [.int 5, .int 13, .int 40961], .tup [.int 1, .int 16, .int 65537], .tup [.int 3, .int 18, .int 786433], .tup [.int 7, .int 20, .int 7340033], .tup [.int 5, .int 25, .int 167772161]])), z4, some (.fz (.int f)), some (.fz (.int pp)), some (.fz (.int g)), w8, some (.fz (.int 17)), none, none] S5 := by
    simp [ha]
  have st13 : (fSet 10 (fOp gAdd (fC (.int 2)) (fCall m__law_roll (fCons (fVar 1) (fCons (fOp gSub (fRd 7) (fC (.int 2))) fNil))))) fuel [some (.fz (.scr ns)), some (.fz (.hd 0)), some (.fz (.lst [.bl true, .bl false, .bl true, .bl false, .non, .bl true, .int 2])), some (.fz (.lst [.tup [.int 3, .int 12, .int 12289], .tup [.int 5, .int 13, .int 40961], .tup [.int 1, .int 16, .int 65537], .tup [.int 3, .int 18, .int 786433], .tup [.int 7, .int 20, .int 7340033], .tup [.int 5, .int 25, .int 167772161]])), z4, some (.fz (.int f)), some (.fz (.int pp)), some (.fz (.int g)), w8, some (.fz (.int 17)), none, none] S5 = .nx [some (.fz (.scr ns)), some (.fz (.hd 0)), some (.fz (.lst [.bl true, .bl false, .bl true, .bl false, .non, .bl true, .int 2])), some (.fz (.lst [.tup [.int 3, .int 12, .int 12289], .tup [.int 5, .int 13, .int 40961], .tup [.int 1, .int 16, .int 65537], .tup [.int 3, .int 18, .int 786433], .tup [.int 7, .int 20, .int 7340033], .tup [.int 5, .int 25, .int 167772161]])), z4, some (.fz (.int f)), some (.fz (.int pp)), some (.fz (.int g)), w8, some (.fz (.int 17)), some (.fz (.int (2 + x6))), none] S6 := by
    simp [q6]
  have stz : (fRet (fCall m__law_like (fCons (fCall m_is_proth_paper (fCons (fVar 5) (fCons (fVar 6) (fCons (fVar 10) fNil)))) (fCons (fOp gEq (fCall m__law_sign (fCons (fVar 10) (fCons (fVar 7) fNil))) (fUn gNeg (fC (.int 1)))) fNil)))) fuel [some (.fz (.scr ns)), some (.fz (.hd 0)), some (.fz (.lst [.bl true, .bl false, .bl true, .bl false, .non, .bl true, .int 2])), some (.fz (.lst [.tup [.int 3, .int 12, .int 12289], .tup [.int 5, .int 13, .int 40961], .tup [.int 1, .int 16, .int 65537], .tup [.int 3, .int 18, .int 786433], .tup [.int 7, .int 20, .int 7340033], .tup [.int 5, .int 25, .int 167772161]])), z4, some (.fz (.int f)), some (.fz (.int pp)), some (.fz (.int g)), w8, some (.fz (.int 17)), some (.fz (.int (2 + x6))), none] S6 = .rt (.bl true) S6 := by
    simp [v1, v2, v3, lkb]
  have e0 : startE N_law [.scr ns] = [some (.fz (.scr ns)), none, none, none, none, none, none, none, none, none, none, none] := rfl
  show bodyR (f_law fuel (startE N_law [.scr ns]) []) = _
  unfold f_law
  rw [e0, seq_nx st0, seq_nx st1, seq_nx st2, seq_nx st3, seq_nx st4, seq_nx st5, seq_nx st6, seq_nx st7, seq_nx st8, seq_nx st9, seq_nx st10, seq_nx st11, seq_nx st12, seq_nx st13, stz]
  rfl
end LW

end

section
set_option autoImplicit true
namespace LW
open PySem PySem.Spec PyProof.Rows L2 DL
def topS (i : Nat) : Stmt := PySem.Challenge.pw_primessure_k76_whole_proth_papers.main.body.getD i (.Pass ⟨0, 0, 0, 0⟩)
abbrev s_is_integer : Stmt := topS 7
def d_is_integer : He.DefD := ⟨("is_integer", none), "is_integer", "is_integer", defArgs s_is_integer, defBody s_is_integer, defScope s_is_integer, [], []⟩
abbrev s_is_whole : Stmt := topS 8
def d_is_whole : He.DefD := ⟨("is_whole", none), "is_whole", "is_whole", defArgs s_is_whole, defBody s_is_whole, defScope s_is_whole, [], []⟩
abbrev s_need_whole : Stmt := topS 9
def d_need_whole : He.DefD := ⟨("need_whole", none), "need_whole", "need_whole", defArgs s_need_whole, defBody s_need_whole, defScope s_need_whole, [], []⟩
abbrev s_need_number : Stmt := topS 10
def d_need_number : He.DefD := ⟨("need_number", none), "need_number", "need_number", defArgs s_need_number, defBody s_need_number, defScope s_need_number, [], []⟩
abbrev s_least_factor : Stmt := topS 11
def d_least_factor : He.DefD := ⟨("least_factor", none), "least_factor", "least_factor", defArgs s_least_factor, defBody s_least_factor, defScope s_least_factor, [], []⟩
abbrev s_is_prime_in : Stmt := topS 12
def d_is_prime_in : He.DefD := ⟨("is_prime_in", none), "is_prime_in", "is_prime_in", defArgs s_is_prime_in, defBody s_is_prime_in, defScope s_is_prime_in, [], []⟩
abbrev s_power_in : Stmt := topS 13
def d_power_in : He.DefD := ⟨("power_in", none), "power_in", "power_in", defArgs s_power_in, defBody s_power_in, defScope s_power_in, [], []⟩
abbrev s_is_prime : Stmt := topS 14
def d_is_prime : He.DefD := ⟨("is_prime", none), "is_prime", "is_prime", defArgs s_is_prime, defBody s_is_prime, defScope s_is_prime, [], []⟩
abbrev s_sign_in : Stmt := topS 16
def d_sign_in : He.DefD := ⟨("sign_in", none), "sign_in", "sign_in", defArgs s_sign_in, defBody s_sign_in, defScope s_sign_in, [], []⟩
abbrev s_above_in : Stmt := topS 19
def d_above_in : He.DefD := ⟨("above_in", none), "above_in", "above_in", defArgs s_above_in, defBody s_above_in, defScope s_above_in, [], []⟩
abbrev s_fits_two_shape : Stmt := topS 20
def d_fits_two_shape : He.DefD := ⟨("fits_two_shape", none), "fits_two_shape", "fits_two_shape", defArgs s_fits_two_shape, defBody s_fits_two_shape, defScope s_fits_two_shape, [], []⟩
abbrev s_need_two_shape : Stmt := topS 21
def d_need_two_shape : He.DefD := ⟨("need_two_shape", none), "need_two_shape", "need_two_shape", defArgs s_need_two_shape, defBody s_need_two_shape, defScope s_need_two_shape, [], []⟩
abbrev s_half_in : Stmt := topS 22
def d_half_in : He.DefD := ⟨("half_in", none), "half_in", "half_in", defArgs s_half_in, defBody s_half_in, defScope s_half_in, [], []⟩
abbrev s_is_square_number : Stmt := topS 23
def d_is_square_number : He.DefD := ⟨("is_square_number", none), "is_square_number", "is_square_number", defArgs s_is_square_number, defBody s_is_square_number, defScope s_is_square_number, [], []⟩
abbrev s_paper_base : Stmt := topS 24
def d_paper_base : He.DefD := ⟨("paper_base", none), "paper_base", "paper_base", defArgs s_paper_base, defBody s_paper_base, defScope s_paper_base, [], []⟩
abbrev s_is_prime_above : Stmt := topS 25
def d_is_prime_above : He.DefD := ⟨("is_prime_above", none), "is_prime_above", "is_prime_above", defArgs s_is_prime_above, defBody s_is_prime_above, defScope s_is_prime_above, [], []⟩
abbrev s_is_false_in : Stmt := topS 26
def d_is_false_in : He.DefD := ⟨("is_false_in", none), "is_false_in", "is_false_in", defArgs s_is_false_in, defBody s_is_false_in, defScope s_is_false_in, [], []⟩
abbrev s_is_base_to : Stmt := topS 27
def d_is_base_to : He.DefD := ⟨("is_base_to", none), "is_base_to", "is_base_to", defArgs s_is_base_to, defBody s_is_base_to, defScope s_is_base_to, [], []⟩
abbrev s_number_above : Stmt := topS 28
def d_number_above : He.DefD := ⟨("number_above", none), "number_above", "number_above", defArgs s_number_above, defBody s_number_above, defScope s_number_above, [], []⟩
abbrev s_is_shape_prime : Stmt := topS 29
def d_is_shape_prime : He.DefD := ⟨("is_shape_prime", none), "is_shape_prime", "is_shape_prime", defArgs s_is_shape_prime, defBody s_is_shape_prime, defScope s_is_shape_prime, [], []⟩
abbrev s_proth_paper : Stmt := topS 30
def d_proth_paper : He.DefD := ⟨("proth_paper", none), "proth_paper", "proth_paper", defArgs s_proth_paper, defBody s_proth_paper, defScope s_proth_paper, [], []⟩
abbrev s_is_proth_paper : Stmt := topS 31
def d_is_proth_paper : He.DefD := ⟨("is_proth_paper", none), "is_proth_paper", "is_proth_paper", defArgs s_is_proth_paper, defBody s_is_proth_paper, defScope s_is_proth_paper, [], []⟩
abbrev s_false_paper : Stmt := topS 32
def d_false_paper : He.DefD := ⟨("false_paper", none), "false_paper", "false_paper", defArgs s_false_paper, defBody s_false_paper, defScope s_false_paper, [], []⟩
abbrev s__law_cup : Stmt := topS 34
def d__law_cup : He.DefD := ⟨("_law_cup", none), "_law_cup", "_law_cup", defArgs s__law_cup, defBody s__law_cup, defScope s__law_cup, [], []⟩
abbrev s__law_roll : Stmt := topS 35
def d__law_roll : He.DefD := ⟨("_law_roll", none), "_law_roll", "_law_roll", defArgs s__law_roll, defBody s__law_roll, defScope s__law_roll, [], []⟩
abbrev s__law_some : Stmt := topS 36
def d__law_some : He.DefD := ⟨("_law_some", none), "_law_some", "_law_some", defArgs s__law_some, defBody s__law_some, defScope s__law_some, [], []⟩
abbrev s__law_sort : Stmt := topS 37
def d__law_sort : He.DefD := ⟨("_law_sort", none), "_law_sort", "_law_sort", defArgs s__law_sort, defBody s__law_sort, defScope s__law_sort, [], []⟩
abbrev s__law_like : Stmt := topS 38
def d__law_like : He.DefD := ⟨("_law_like", none), "_law_like", "_law_like", defArgs s__law_like, defBody s__law_like, defScope s__law_like, [], []⟩
abbrev s__law_is_prime : Stmt := topS 39
def d__law_is_prime : He.DefD := ⟨("_law_is_prime", none), "_law_is_prime", "_law_is_prime", defArgs s__law_is_prime, defBody s__law_is_prime, defScope s__law_is_prime, [], []⟩
abbrev s__law_power : Stmt := topS 40
def d__law_power : He.DefD := ⟨("_law_power", none), "_law_power", "_law_power", defArgs s__law_power, defBody s__law_power, defScope s__law_power, [], []⟩
abbrev s__law_above : Stmt := topS 41
def d__law_above : He.DefD := ⟨("_law_above", none), "_law_above", "_law_above", defArgs s__law_above, defBody s__law_above, defScope s__law_above, [], []⟩
abbrev s__law_sign : Stmt := topS 42
def d__law_sign : He.DefD := ⟨("_law_sign", none), "_law_sign", "_law_sign", defArgs s__law_sign, defBody s__law_sign, defScope s__law_sign, [], []⟩
abbrev s__law_half : Stmt := topS 43
def d__law_half : He.DefD := ⟨("_law_half", none), "_law_half", "_law_half", defArgs s__law_half, defBody s__law_half, defScope s__law_half, [], []⟩
abbrev s__law_is_false : Stmt := topS 44
def d__law_is_false : He.DefD := ⟨("_law_is_false", none), "_law_is_false", "_law_is_false", defArgs s__law_is_false, defBody s__law_is_false, defScope s__law_is_false, [], []⟩
abbrev s__law_shape : Stmt := topS 45
def d__law_shape : He.DefD := ⟨("_law_shape", none), "_law_shape", "_law_shape", defArgs s__law_shape, defBody s__law_shape, defScope s__law_shape, [], []⟩
abbrev s__law_right : Stmt := topS 46
def d__law_right : He.DefD := ⟨("_law_right", none), "_law_right", "_law_right", defArgs s__law_right, defBody s__law_right, defScope s__law_right, [], []⟩
abbrev s_law : Stmt := topS 47
def d_law : He.DefD := ⟨("law", none), "law", "law", defArgs s_law, defBody s_law, defScope s_law, [], []⟩
def fn : List He.DefD := ([d_is_integer, d_is_whole, d_need_whole, d_need_number, d_least_factor, d_is_prime_in, d_power_in, d_is_prime, d_sign_in, d_above_in, d_fits_two_shape, d_need_two_shape, d_half_in, d_is_square_number, d_paper_base, d_is_prime_above, d_is_false_in, d_is_base_to, d_number_above, d_is_shape_prime, d_proth_paper, d_is_proth_paper, d_false_paper, d__law_cup, d__law_roll, d__law_some, d__law_sort, d__law_like, d__law_is_prime, d__law_power, d__law_above, d__law_sign, d__law_half, d__law_is_false, d__law_shape] : List He.DefD) ++ ([d__law_right, d_law] : List He.DefD)
def fa : List He.Fa := ([.glo "is_integer", .glo "is_whole", .glo "need_whole", .glo "need_number", .glo "least_factor", .glo "is_prime_in", .glo "power_in", .glo "is_prime", .glo "sign_in", .glo "above_in", .glo "fits_two_shape", .glo "need_two_shape", .glo "half_in", .glo "is_square_number", .glo "paper_base", .glo "is_prime_above", .glo "is_false_in", .glo "is_base_to", .glo "number_above", .glo "is_shape_prime", .glo "proth_paper", .glo "is_proth_paper", .glo "false_paper", .glo "_law_cup", .glo "_law_roll", .glo "_law_some", .glo "_law_sort", .glo "_law_like", .glo "_law_is_prime", .glo "_law_power", .glo "_law_above", .glo "_law_sign", .glo "_law_half", .glo "_law_is_false", .glo "_law_shape"] : List He.Fa) ++ ([.glo "_law_right", .glo "law", .glo "PrimeError", .glo "InvalidNumber", .glo "InvalidShape", .exc "PrimeError", .exc "InvalidNumber", .exc "InvalidShape", .int "MOST" 10000000000, .int "GREAT" 10000000000000000000000000000000000000000, .int "MOST_POWER" 132, .free "abs", .free "bool", .free "int", .free "isinstance", .free "len", .free "list", .free "min", .free "range", .free "str", .free "tuple", .free "zip"] : List He.Fa)
theorem sc_is_integer : FnScope N_is_integer ["value"] (defScope s_is_integer) := ⟨rfl, rfl, rfl, by decide +kernel, rfl, by decide +kernel, by decide +kernel⟩
theorem der_is_integer {P : Program} {w : World} {K : PySem.W.Frag} {mg : Str → Option Value} {base : Heap} (T : Hd fa fn K mg) {X : Cx} {B : Gr} {W : WX} (h : Bd X W P w K mg base 0 N_is_integer (defScope s_is_integer)) : QSs X B W (defBody s_is_integer) f_is_integer := by
  have v0 := h.vr (i := 0) (x := "value") (by rfl) (by decide +kernel)
  have g_bool := h.gl (x := "bool") (by decide +kernel)
  have g_int := h.gl (x := "int") (by decide +kernel)
  have g_isinstance := h.gl (x := "isinstance") (by decide +kernel)
  exact (ss_one (s_ret (q_and (q_cb cq_isi (h.wd.blt (T.free 49 (by rfl)) g_isinstance) boot_isinstance (by decide) (by rfl) (ar_cons (q_rd v0) (ar_cons (QE.qr (q_ty (h.wd.blt (T.free 48 (by rfl)) g_int) boot_int (by decide) (by rfl))) ar_nil (by rfl)) (by rfl)) (by rfl) (by rfl)) (q_one (q_not (q_cb cq_isi (h.wd.blt (T.free 49 (by rfl)) g_isinstance) boot_isinstance (by decide) (by rfl) (ar_cons (q_rd v0) (ar_cons (QE.qr (q_ty (h.wd.blt (T.free 47 (by rfl)) g_bool) boot_bool (by decide) (by rfl))) ar_nil (by rfl)) (by rfl)) (by rfl) (by rfl)))))))

theorem sc_is_whole : FnScope N_is_whole ["value", "low", "high"] (defScope s_is_whole) := ⟨rfl, rfl, rfl, by decide +kernel, rfl, by decide +kernel, by decide +kernel⟩
theorem der_is_whole {P : Program} {w : World} {K : PySem.W.Frag} {mg : Str → Option Value} {base : Heap} (T : Hd fa fn K mg) (c_is_integer : CalleeK P w K mg base "is_integer" 1 1 m_is_integer) {X : Cx} {B : Gr} {W : WX} (h : Bd X W P w K mg base 1 N_is_whole (defScope s_is_whole)) : QSs X B W (defBody s_is_whole) f_is_whole := by
  have v0 := h.vr (i := 0) (x := "value") (by rfl) (by decide +kernel)
  have v1 := h.vr (i := 1) (x := "low") (by rfl) (by decide +kernel)
  have v2 := h.vr (i := 2) (x := "high") (by rfl) (by decide +kernel)
  have g_is_integer := h.gl (x := "is_integer") (by decide +kernel)
  exact (ss_one (s_ret (q_and (q_call (Wd.callee h.wd c_is_integer g_is_integer (by rfl)) (h.wd.room.mono (by omega)) h.cc.tk (a_cons (q_var v0) a_nil (by rfl)) (len_cons len_nil).len (by rfl) (by rfl)) (q_one (q_chain opq_le opq_le (q_rd v1) (q_rd v0) (q_rd v2) (by with_unfolding_all rfl))))))

theorem sc_need_whole : FnScope N_need_whole ["value", "low", "high"] (defScope s_need_whole) := ⟨rfl, rfl, rfl, by decide +kernel, rfl, by decide +kernel, by decide +kernel⟩
theorem der_need_whole {P : Program} {w : World} {K : PySem.W.Frag} {mg : Str → Option Value} {base : Heap} (T : Hd fa fn K mg) (c_is_whole : CalleeK P w K mg base "is_whole" 2 3 m_is_whole) {X : Cx} {B : Gr} {W : WX} (h : Bd X W P w K mg base 2 N_need_whole (defScope s_need_whole)) : QSs X B W (defBody s_need_whole) f_need_whole := by
  have v0 := h.vr (i := 0) (x := "value") (by rfl) (by decide +kernel)
  have v1 := h.vr (i := 1) (x := "low") (by rfl) (by decide +kernel)
  have v2 := h.vr (i := 2) (x := "high") (by rfl) (by decide +kernel)
  have g_InvalidNumber := h.gl (x := "InvalidNumber") (by decide +kernel)
  have g_is_whole := h.gl (x := "is_whole") (by decide +kernel)
  exact (ss_one (s_if (t_not (t_val (q_call (Wd.callee h.wd c_is_whole g_is_whole (by rfl)) (h.wd.room.mono (by omega)) h.cc.tk (a_cons (q_var v0) (a_cons (q_var v1) (a_cons (q_var v2) a_nil (by rfl)) (by rfl)) (by rfl)) (len_cons (len_cons (len_cons len_nil))).len (by rfl) (by rfl)) (fun _ => rfl)))
  (ss_one (s_raise (h.wd.exc g_InvalidNumber (by rfl) (T.glo 38 (by rfl)) (T.exc 41 (by rfl))) h.cc))
  ss_nil))

theorem sc_need_number : FnScope N_need_number ["value"] (defScope s_need_number) := ⟨rfl, rfl, rfl, by decide +kernel, rfl, by decide +kernel, by decide +kernel⟩
theorem der_need_number {P : Program} {w : World} {K : PySem.W.Frag} {mg : Str → Option Value} {base : Heap} (T : Hd fa fn K mg) (c_need_whole : CalleeK P w K mg base "need_whole" 3 3 m_need_whole) {X : Cx} {B : Gr} {W : WX} (h : Bd X W P w K mg base 3 N_need_number (defScope s_need_number)) : QSs X B W (defBody s_need_number) f_need_number := by
  have v0 := h.vr (i := 0) (x := "value") (by rfl) (by decide +kernel)
  have g_MOST := h.gl (x := "MOST") (by decide +kernel)
  have g_need_whole := h.gl (x := "need_whole") (by decide +kernel)
  exact (ss_one (s_exp (q_call (Wd.callee h.wd c_need_whole g_need_whole (by rfl)) (h.wd.room.mono (by omega)) h.cc.tk (a_cons (q_var v0) (a_cons q_int (a_cons (q_gint g_MOST (h.wd.gint (T.int 43 (by rfl))) (by rfl)) a_nil (by rfl)) (by rfl)) (by rfl)) (len_cons (len_cons (len_cons len_nil))).len (by rfl) (by rfl)) (by rfl)))

theorem sc_least_factor : FnScope N_least_factor ["number"] (defScope s_least_factor) := ⟨rfl, rfl, rfl, by decide +kernel, rfl, by decide +kernel, by decide +kernel⟩
theorem der_least_factor {P : Program} {w : World} {K : PySem.W.Frag} {mg : Str → Option Value} {base : Heap} (T : Hd fa fn K mg) {X : Cx} {B : Gr} {W : WX} (h : Bd X W P w K mg base 0 N_least_factor (defScope s_least_factor)) : QSs X B W (defBody s_least_factor) f_least_factor := by
  have v0 := h.vr (i := 0) (x := "number") (by rfl) (by decide +kernel)
  have v1 := h.vr (i := 1) (x := "prime") (by rfl) (by decide +kernel)
  have v2 := h.vr (i := 2) (x := "part") (by rfl) (by decide +kernel)
  have l1 := h.lr (i := 1) (x := "prime") (by rfl) (by decide +kernel)
  have l2 := h.lr (i := 2) (x := "part") (by rfl) (by decide +kernel)
  exact (ss_cons (s_for h.cc (i_seq (q_tup (a_cons q_int (a_cons q_int a_nil (by rfl)) (by rfl)))) (g_name l1)
  (ss_one (s_if (t_cmp (opq_eq (h.wd).hu) (by with_unfolding_all rfl) (QE.qr (q_op opq_mod (q_rd v0) (q_rd v1))) (QE.qr q_int))
  (ss_one (s_ret (q_var v1)))
  ss_nil)) (fun _ => rfl))
 (ss_cons (s_set l2 q_int (by rfl))
 (ss_cons (s_while h.cc (t_cmp opq_le (by with_unfolding_all rfl) (QE.qr (q_op opq_mul (q_rd v2) (q_rd v2))) (q_rd v0))
  (ss_cons (s_if (t_cmp (opq_eq (h.wd).hu) (by with_unfolding_all rfl) (QE.qr (q_op opq_mod (q_rd v0) (q_rd v2))) (QE.qr q_int))
  (ss_one (s_ret (q_var v2)))
  ss_nil)
 (ss_cons (s_if (t_cmp (opq_eq (h.wd).hu) (by with_unfolding_all rfl) (QE.qr (q_op opq_mod (q_rd v0) (QE.qr (q_op opq_add (q_rd v2) (QE.qr q_int))))) (QE.qr q_int))
  (ss_one (s_ret (q_op opq_add (q_rd v2) (QE.qr q_int))))
  ss_nil)
 (ss_one (s_set l2 (q_op opq_add (q_rd v2) (QE.qr q_int)) (by rfl))))))
 (ss_one (s_ret (q_var v0))))))

theorem sc_is_prime_in : FnScope N_is_prime_in ["number"] (defScope s_is_prime_in) := ⟨rfl, rfl, rfl, by decide +kernel, rfl, by decide +kernel, by decide +kernel⟩
theorem der_is_prime_in {P : Program} {w : World} {K : PySem.W.Frag} {mg : Str → Option Value} {base : Heap} (T : Hd fa fn K mg) (c_least_factor : CalleeK P w K mg base "least_factor" 1 1 m_least_factor) {X : Cx} {B : Gr} {W : WX} (h : Bd X W P w K mg base 1 N_is_prime_in (defScope s_is_prime_in)) : QSs X B W (defBody s_is_prime_in) f_is_prime_in := by
  have v0 := h.vr (i := 0) (x := "number") (by rfl) (by decide +kernel)
  have g_least_factor := h.gl (x := "least_factor") (by decide +kernel)
  exact (ss_one (s_ret (q_and (q_cmp opq_gt (by with_unfolding_all rfl) (q_rd v0) (QE.qr q_int)) (q_one (q_cmp (opq_eq (h.wd).hu) (by with_unfolding_all rfl) (QE.qr (q_call (Wd.callee h.wd c_least_factor g_least_factor (by rfl)) (h.wd.room.mono (by omega)) h.cc.tk (a_cons (q_var v0) a_nil (by rfl)) (len_cons len_nil).len (by rfl) (by rfl))) (q_rd v0))))))

theorem sc_power_in : FnScope N_power_in ["one", "times", "great"] (defScope s_power_in) := ⟨rfl, rfl, rfl, by decide +kernel, rfl, by decide +kernel, by decide +kernel⟩
theorem der_power_in {P : Program} {w : World} {K : PySem.W.Frag} {mg : Str → Option Value} {base : Heap} (T : Hd fa fn K mg) {X : Cx} {B : Gr} {W : WX} (h : Bd X W P w K mg base 0 N_power_in (defScope s_power_in)) : QSs X B W (defBody s_power_in) f_power_in := by
  have v0 := h.vr (i := 0) (x := "one") (by rfl) (by decide +kernel)
  have v1 := h.vr (i := 1) (x := "times") (by rfl) (by decide +kernel)
  have v2 := h.vr (i := 2) (x := "great") (by rfl) (by decide +kernel)
  have v3 := h.vr (i := 3) (x := "found") (by rfl) (by decide +kernel)
  have v4 := h.vr (i := 4) (x := "here") (by rfl) (by decide +kernel)
  have v5 := h.vr (i := 5) (x := "left") (by rfl) (by decide +kernel)
  have l3 := h.lr (i := 3) (x := "found") (by rfl) (by decide +kernel)
  have ll3 := h.ll (i := 3) (x := "found") (by rfl) (by decide +kernel)
  have ll4 := h.ll (i := 4) (x := "here") (by rfl) (by decide +kernel)
  have ll5 := h.ll (i := 5) (x := "left") (by rfl) (by decide +kernel)
  exact (ss_cons (s_par3 h.cc ll3 ll4 ll5 (by decide) (by decide) (by decide) (a_cons q_int (a_cons (q_op opq_mod (q_rd v0) (q_rd v2)) (a_cons (q_var v1) a_nil (by rfl)) (by rfl)) (by rfl)) (sw3 h.cc.kd ll3.loc ll4.loc ll5.loc (by decide +kernel) (by rfl) (by rfl) (by rfl) (by rfl) (by rfl)) (by rfl))
 (ss_cons (s_while h.cc (t_cmp opq_gt (by with_unfolding_all rfl) (q_rd v5) (QE.qr q_int))
  (ss_cons (s_if (t_cmp (opq_eq (h.wd).hu) (by with_unfolding_all rfl) (QE.qr (q_op opq_mod (q_rd v5) (QE.qr q_int))) (QE.qr q_int))
  (ss_one (s_set l3 (q_op opq_mod (QE.qr (q_op opq_mul (q_rd v3) (q_rd v4))) (q_rd v2)) (by rfl)))
  ss_nil)
 (ss_one (s_par2 h.cc ll4 ll5 (by decide) (a_cons (q_op opq_mod (QE.qr (q_op opq_mul (q_rd v4) (q_rd v4))) (q_rd v2)) (a_cons (q_op opq_div (q_rd v5) (QE.qr q_int)) a_nil (by rfl)) (by rfl)) (sw2 h.cc.kd ll4.loc ll5.loc (by decide +kernel) (by rfl) (by rfl) (by rfl) (by rfl)) (by rfl)))))
 (ss_one (s_ret (q_op opq_mod (q_rd v3) (q_rd v2))))))

theorem sc_is_prime : FnScope N_is_prime ["number"] (defScope s_is_prime) := ⟨rfl, rfl, rfl, by decide +kernel, rfl, by decide +kernel, by decide +kernel⟩
theorem der_is_prime {P : Program} {w : World} {K : PySem.W.Frag} {mg : Str → Option Value} {base : Heap} (T : Hd fa fn K mg) (c_need_number : CalleeK P w K mg base "need_number" 4 1 m_need_number) (c_is_prime_in : CalleeK P w K mg base "is_prime_in" 2 1 m_is_prime_in) {X : Cx} {B : Gr} {W : WX} (h : Bd X W P w K mg base 4 N_is_prime (defScope s_is_prime)) : QSs X B W (defBody s_is_prime) f_is_prime := by
  have v0 := h.vr (i := 0) (x := "number") (by rfl) (by decide +kernel)
  have g_is_prime_in := h.gl (x := "is_prime_in") (by decide +kernel)
  have g_need_number := h.gl (x := "need_number") (by decide +kernel)
  exact (ss_cons (s_exp (q_call (Wd.callee h.wd c_need_number g_need_number (by rfl)) (h.wd.room.mono (by omega)) h.cc.tk (a_cons (q_var v0) a_nil (by rfl)) (len_cons len_nil).len (by rfl) (by rfl)) (by rfl))
 (ss_one (s_ret (q_call (Wd.callee h.wd c_is_prime_in g_is_prime_in (by rfl)) (h.wd.room.mono (by omega)) h.cc.tk (a_cons (q_var v0) a_nil (by rfl)) (len_cons len_nil).len (by rfl) (by rfl)))))

theorem sc_sign_in : FnScope N_sign_in ["one", "odd"] (defScope s_sign_in) := ⟨rfl, rfl, rfl, by decide +kernel, rfl, by decide +kernel, by decide +kernel⟩
theorem der_sign_in {P : Program} {w : World} {K : PySem.W.Frag} {mg : Str → Option Value} {base : Heap} (T : Hd fa fn K mg) {X : Cx} {B : Gr} {W : WX} (h : Bd X W P w K mg base 0 N_sign_in (defScope s_sign_in)) : QSs X B W (defBody s_sign_in) f_sign_in := by
  have v0 := h.vr (i := 0) (x := "one") (by rfl) (by decide +kernel)
  have v1 := h.vr (i := 1) (x := "odd") (by rfl) (by decide +kernel)
  have v2 := h.vr (i := 2) (x := "sign") (by rfl) (by decide +kernel)
  have v3 := h.vr (i := 3) (x := "top") (by rfl) (by decide +kernel)
  have v4 := h.vr (i := 4) (x := "below") (by rfl) (by decide +kernel)
  have l2 := h.lr (i := 2) (x := "sign") (by rfl) (by decide +kernel)
  have l3 := h.lr (i := 3) (x := "top") (by rfl) (by decide +kernel)
  have ll2 := h.ll (i := 2) (x := "sign") (by rfl) (by decide +kernel)
  have ll3 := h.ll (i := 3) (x := "top") (by rfl) (by decide +kernel)
  have ll4 := h.ll (i := 4) (x := "below") (by rfl) (by decide +kernel)
  exact (ss_cons (s_par3 h.cc ll2 ll3 ll4 (by decide) (by decide) (by decide) (a_cons q_int (a_cons (q_op opq_mod (q_rd v0) (q_rd v1)) (a_cons (q_var v1) a_nil (by rfl)) (by rfl)) (by rfl)) (sw3 h.cc.kd ll2.loc ll3.loc ll4.loc (by decide +kernel) (by rfl) (by rfl) (by rfl) (by rfl) (by rfl)) (by rfl))
 (ss_cons (s_while h.cc (t_cmp (opq_ne (h.wd).hu) (by with_unfolding_all rfl) (q_rd v3) (QE.qr q_int))
  (ss_cons (s_while h.cc (t_cmp (opq_eq (h.wd).hu) (by with_unfolding_all rfl) (QE.qr (q_op opq_mod (q_rd v3) (QE.qr q_int))) (QE.qr q_int))
  (ss_cons (s_set l3 (q_op opq_div (q_rd v3) (QE.qr q_int)) (by rfl))
 (ss_one (s_set l2 (q_if (t_cmp opq_in (by with_unfolding_all rfl) (QE.qr (q_op opq_mod (q_rd v4) (QE.qr q_int))) (QE.qr (q_tup (a_cons q_int (a_cons q_int a_nil (by rfl)) (by rfl))))) (q_neg (q_var v2)) (q_var v2)) (by rfl)))))
 (ss_cons (s_set l2 (q_if (t_w (w_and (t_cmp (opq_eq (h.wd).hu) (by with_unfolding_all rfl) (QE.qr (q_op opq_mod (q_rd v3) (QE.qr q_int))) (QE.qr q_int)) (w_and1 (t_cmp (opq_eq (h.wd).hu) (by with_unfolding_all rfl) (QE.qr (q_op opq_mod (q_rd v4) (QE.qr q_int))) (QE.qr q_int))))) (q_neg (q_var v2)) (q_var v2)) (by rfl))
 (ss_one (s_par2 h.cc ll3 ll4 (by decide) (a_cons (q_op opq_mod (q_rd v4) (q_rd v3)) (a_cons (q_var v3) a_nil (by rfl)) (by rfl)) (sw2 h.cc.kd ll3.loc ll4.loc (by decide +kernel) (by rfl) (by rfl) (by rfl) (by rfl)) (by rfl))))))
 (ss_one (s_ret (q_if (t_cmp (opq_eq (h.wd).hu) (by with_unfolding_all rfl) (q_rd v4) (QE.qr q_int)) (q_var v2) q_int)))))

theorem sc_above_in : FnScope N_above_in ["front", "power"] (defScope s_above_in) := ⟨rfl, rfl, rfl, by decide +kernel, rfl, by decide +kernel, by decide +kernel⟩
theorem der_above_in {P : Program} {w : World} {K : PySem.W.Frag} {mg : Str → Option Value} {base : Heap} (T : Hd fa fn K mg) {X : Cx} {B : Gr} {W : WX} (h : Bd X W P w K mg base 0 N_above_in (defScope s_above_in)) : QSs X B W (defBody s_above_in) f_above_in := by
  have v0 := h.vr (i := 0) (x := "front") (by rfl) (by decide +kernel)
  have v1 := h.vr (i := 1) (x := "power") (by rfl) (by decide +kernel)
  have v2 := h.vr (i := 2) (x := "found") (by rfl) (by decide +kernel)
  have l2 := h.lr (i := 2) (x := "found") (by rfl) (by decide +kernel)
  have l3 := h.lr (i := 3) (x := "turn") (by rfl) (by decide +kernel)
  have g_range := h.gl (x := "range") (by decide +kernel)
  exact (ss_cons (s_set l2 (q_var v0) (by rfl))
 (ss_cons (s_for h.cc (i_r1 (h.wd.blt (T.free 53 (by rfl)) g_range) (a_cons (q_var v1) a_nil (by rfl)) (by rfl)) (g_name l3)
  (ss_one (s_set l2 (q_op opq_mul (QE.qr q_int) (q_rd v2)) (by rfl))) (fun _ => rfl))
 (ss_one (s_ret (q_op opq_add (q_rd v2) (QE.qr q_int))))))

theorem sc_fits_two_shape : FnScope N_fits_two_shape ["front", "power"] (defScope s_fits_two_shape) := ⟨rfl, rfl, rfl, by decide +kernel, rfl, by decide +kernel, by decide +kernel⟩
theorem der_fits_two_shape {P : Program} {w : World} {K : PySem.W.Frag} {mg : Str → Option Value} {base : Heap} (T : Hd fa fn K mg) (c_is_whole : CalleeK P w K mg base "is_whole" 2 3 m_is_whole) (c_above_in : CalleeK P w K mg base "above_in" 1 2 m_above_in) {X : Cx} {B : Gr} {W : WX} (h : Bd X W P w K mg base 2 N_fits_two_shape (defScope s_fits_two_shape)) : QSs X B W (defBody s_fits_two_shape) f_fits_two_shape := by
  have v0 := h.vr (i := 0) (x := "front") (by rfl) (by decide +kernel)
  have v1 := h.vr (i := 1) (x := "power") (by rfl) (by decide +kernel)
  have g_GREAT := h.gl (x := "GREAT") (by decide +kernel)
  have g_MOST_POWER := h.gl (x := "MOST_POWER") (by decide +kernel)
  have g_above_in := h.gl (x := "above_in") (by decide +kernel)
  have g_is_whole := h.gl (x := "is_whole") (by decide +kernel)
  exact (ss_cons (s_if (t_w (w_or (t_not (t_val (q_call (Wd.callee h.wd c_is_whole g_is_whole (by rfl)) (h.wd.room.mono (by omega)) h.cc.tk (a_cons (q_var v0) (a_cons q_int (a_cons (q_gint g_GREAT (h.wd.gint (T.int 44 (by rfl))) (by rfl)) a_nil (by rfl)) (by rfl)) (by rfl)) (len_cons (len_cons (len_cons len_nil))).len (by rfl) (by rfl)) (fun _ => rfl))) (w_or (t_cmp (opq_eq (h.wd).hu) (by with_unfolding_all rfl) (QE.qr (q_op opq_mod (q_rd v0) (QE.qr q_int))) (QE.qr q_int)) (w_or1 (t_not (t_val (q_call (Wd.callee h.wd c_is_whole g_is_whole (by rfl)) (h.wd.room.mono (by omega)) h.cc.tk (a_cons (q_var v1) (a_cons q_int (a_cons (q_gint g_MOST_POWER (h.wd.gint (T.int 45 (by rfl))) (by rfl)) a_nil (by rfl)) (by rfl)) (by rfl)) (len_cons (len_cons (len_cons len_nil))).len (by rfl) (by rfl)) (fun _ => rfl)))))))
  (ss_one (s_ret q_bl))
  ss_nil)
 (ss_one (s_ret (q_and (q_cmp opq_gt (by with_unfolding_all rfl) (QE.qr (q_op opq_sub (QE.qr (q_call (Wd.callee h.wd c_above_in g_above_in (by rfl)) (h.wd.room.mono (by omega)) h.cc.tk (a_cons q_int (a_cons (q_var v1) a_nil (by rfl)) (by rfl)) (len_cons (len_cons len_nil)).len (by rfl) (by rfl))) (QE.qr q_int))) (q_rd v0)) (q_one (q_cmp opq_le (by with_unfolding_all rfl) (QE.qr (q_call (Wd.callee h.wd c_above_in g_above_in (by rfl)) (h.wd.room.mono (by omega)) h.cc.tk (a_cons (q_var v0) (a_cons (q_var v1) a_nil (by rfl)) (by rfl)) (len_cons (len_cons len_nil)).len (by rfl) (by rfl))) (QE.qr (q_gint g_GREAT (h.wd.gint (T.int 44 (by rfl))) (by rfl)))))))))

theorem sc_need_two_shape : FnScope N_need_two_shape ["front", "power"] (defScope s_need_two_shape) := ⟨rfl, rfl, rfl, by decide +kernel, rfl, by decide +kernel, by decide +kernel⟩
theorem der_need_two_shape {P : Program} {w : World} {K : PySem.W.Frag} {mg : Str → Option Value} {base : Heap} (T : Hd fa fn K mg) (c_fits_two_shape : CalleeK P w K mg base "fits_two_shape" 3 2 m_fits_two_shape) {X : Cx} {B : Gr} {W : WX} (h : Bd X W P w K mg base 3 N_need_two_shape (defScope s_need_two_shape)) : QSs X B W (defBody s_need_two_shape) f_need_two_shape := by
  have v0 := h.vr (i := 0) (x := "front") (by rfl) (by decide +kernel)
  have v1 := h.vr (i := 1) (x := "power") (by rfl) (by decide +kernel)
  have g_InvalidShape := h.gl (x := "InvalidShape") (by decide +kernel)
  have g_fits_two_shape := h.gl (x := "fits_two_shape") (by decide +kernel)
  exact (ss_one (s_if (t_not (t_val (q_call (Wd.callee h.wd c_fits_two_shape g_fits_two_shape (by rfl)) (h.wd.room.mono (by omega)) h.cc.tk (a_cons (q_var v0) (a_cons (q_var v1) a_nil (by rfl)) (by rfl)) (len_cons (len_cons len_nil)).len (by rfl) (by rfl)) (fun _ => rfl)))
  (ss_one (s_raise (h.wd.exc g_InvalidShape (by rfl) (T.glo 39 (by rfl)) (T.exc 42 (by rfl))) h.cc))
  ss_nil))

theorem sc_half_in : FnScope N_half_in ["base", "great"] (defScope s_half_in) := ⟨rfl, rfl, rfl, by decide +kernel, rfl, by decide +kernel, by decide +kernel⟩
theorem der_half_in {P : Program} {w : World} {K : PySem.W.Frag} {mg : Str → Option Value} {base : Heap} (T : Hd fa fn K mg) (c_power_in : CalleeK P w K mg base "power_in" 1 3 m_power_in) {X : Cx} {B : Gr} {W : WX} (h : Bd X W P w K mg base 1 N_half_in (defScope s_half_in)) : QSs X B W (defBody s_half_in) f_half_in := by
  have v0 := h.vr (i := 0) (x := "base") (by rfl) (by decide +kernel)
  have v1 := h.vr (i := 1) (x := "great") (by rfl) (by decide +kernel)
  have g_power_in := h.gl (x := "power_in") (by decide +kernel)
  exact (ss_one (s_ret (q_call (Wd.callee h.wd c_power_in g_power_in (by rfl)) (h.wd.room.mono (by omega)) h.cc.tk (a_cons (q_var v0) (a_cons (q_op opq_div (q_rd v1) (QE.qr q_int)) (a_cons (q_var v1) a_nil (by rfl)) (by rfl)) (by rfl)) (len_cons (len_cons (len_cons len_nil))).len (by rfl) (by rfl))))

theorem sc_is_square_number : FnScope N_is_square_number ["number"] (defScope s_is_square_number) := ⟨rfl, rfl, rfl, by decide +kernel, rfl, by decide +kernel, by decide +kernel⟩
theorem der_is_square_number {P : Program} {w : World} {K : PySem.W.Frag} {mg : Str → Option Value} {base : Heap} (T : Hd fa fn K mg) {X : Cx} {B : Gr} {W : WX} (h : Bd X W P w K mg base 0 N_is_square_number (defScope s_is_square_number)) : QSs X B W (defBody s_is_square_number) f_is_square_number := by
  have v0 := h.vr (i := 0) (x := "number") (by rfl) (by decide +kernel)
  have v1 := h.vr (i := 1) (x := "low") (by rfl) (by decide +kernel)
  have v2 := h.vr (i := 2) (x := "high") (by rfl) (by decide +kernel)
  have v3 := h.vr (i := 3) (x := "middle") (by rfl) (by decide +kernel)
  have l1 := h.lr (i := 1) (x := "low") (by rfl) (by decide +kernel)
  have l2 := h.lr (i := 2) (x := "high") (by rfl) (by decide +kernel)
  have l3 := h.lr (i := 3) (x := "middle") (by rfl) (by decide +kernel)
  have ll1 := h.ll (i := 1) (x := "low") (by rfl) (by decide +kernel)
  have ll2 := h.ll (i := 2) (x := "high") (by rfl) (by decide +kernel)
  exact (ss_cons (s_par2 h.cc ll1 ll2 (by decide) (a_cons q_int (a_cons (q_op opq_add (q_rd v0) (QE.qr q_int)) a_nil (by rfl)) (by rfl)) (sw2 h.cc.kd ll1.loc ll2.loc (by decide +kernel) (by rfl) (by rfl) (by rfl) (by rfl)) (by rfl))
 (ss_cons (s_while h.cc (t_cmp opq_gt (by with_unfolding_all rfl) (QE.qr (q_op opq_sub (q_rd v2) (q_rd v1))) (QE.qr q_int))
  (ss_cons (s_set l3 (q_op opq_div (QE.qr (q_op opq_add (q_rd v1) (q_rd v2))) (QE.qr q_int)) (by rfl))
 (ss_one (s_if (t_cmp opq_le (by with_unfolding_all rfl) (QE.qr (q_op opq_mul (q_rd v3) (q_rd v3))) (q_rd v0))
  (ss_one (s_set l1 (q_var v3) (by rfl)))
  (ss_one (s_set l2 (q_var v3) (by rfl)))))))
 (ss_one (s_ret (q_cmp (opq_eq (h.wd).hu) (by with_unfolding_all rfl) (QE.qr (q_op opq_mul (q_rd v1) (q_rd v1))) (q_rd v0))))))

theorem sc_paper_base : FnScope N_paper_base ["great"] (defScope s_paper_base) := ⟨rfl, rfl, rfl, by decide +kernel, rfl, by decide +kernel, by decide +kernel⟩
theorem der_paper_base {P : Program} {w : World} {K : PySem.W.Frag} {mg : Str → Option Value} {base : Heap} (T : Hd fa fn K mg) (c_sign_in : CalleeK P w K mg base "sign_in" 1 2 m_sign_in) {X : Cx} {B : Gr} {W : WX} (h : Bd X W P w K mg base 1 N_paper_base (defScope s_paper_base)) : QSs X B W (defBody s_paper_base) f_paper_base := by
  have v0 := h.vr (i := 0) (x := "great") (by rfl) (by decide +kernel)
  have v1 := h.vr (i := 1) (x := "base") (by rfl) (by decide +kernel)
  have l1 := h.lr (i := 1) (x := "base") (by rfl) (by decide +kernel)
  have g_sign_in := h.gl (x := "sign_in") (by decide +kernel)
  exact (ss_cons (s_set l1 q_int (by rfl))
 (ss_cons (s_while h.cc (t_cmp (opq_eq (h.wd).hu) (by with_unfolding_all rfl) (QE.qr (q_call (Wd.callee h.wd c_sign_in g_sign_in (by rfl)) (h.wd.room.mono (by omega)) h.cc.tk (a_cons (q_var v1) (a_cons (q_var v0) a_nil (by rfl)) (by rfl)) (len_cons (len_cons len_nil)).len (by rfl) (by rfl))) (QE.qr q_int))
  (ss_one (s_set l1 (q_op opq_add (q_rd v1) (QE.qr q_int)) (by rfl))))
 (ss_one (s_ret (q_var v1)))))

theorem sc_is_prime_above : FnScope N_is_prime_above ["great"] (defScope s_is_prime_above) := ⟨rfl, rfl, rfl, by decide +kernel, rfl, by decide +kernel, by decide +kernel⟩
theorem der_is_prime_above {P : Program} {w : World} {K : PySem.W.Frag} {mg : Str → Option Value} {base : Heap} (T : Hd fa fn K mg) (c_is_square_number : CalleeK P w K mg base "is_square_number" 1 1 m_is_square_number) (c_paper_base : CalleeK P w K mg base "paper_base" 2 1 m_paper_base) (c_half_in : CalleeK P w K mg base "half_in" 2 2 m_half_in) {X : Cx} {B : Gr} {W : WX} (h : Bd X W P w K mg base 2 N_is_prime_above (defScope s_is_prime_above)) : QSs X B W (defBody s_is_prime_above) f_is_prime_above := by
  have v0 := h.vr (i := 0) (x := "great") (by rfl) (by decide +kernel)
  have g_half_in := h.gl (x := "half_in") (by decide +kernel)
  have g_is_square_number := h.gl (x := "is_square_number") (by decide +kernel)
  have g_paper_base := h.gl (x := "paper_base") (by decide +kernel)
  exact (ss_cons (s_if (t_cmp (opq_eq (h.wd).hu) (by with_unfolding_all rfl) (q_rd v0) (QE.qr q_int))
  (ss_one (s_ret q_bl))
  ss_nil)
 (ss_one (s_ret (q_and (q_not (q_call (Wd.callee h.wd c_is_square_number g_is_square_number (by rfl)) (h.wd.room.mono (by omega)) h.cc.tk (a_cons (q_var v0) a_nil (by rfl)) (len_cons len_nil).len (by rfl) (by rfl))) (q_one (q_cmp (opq_eq (h.wd).hu) (by with_unfolding_all rfl) (QE.qr (q_call (Wd.callee h.wd c_half_in g_half_in (by rfl)) (h.wd.room.mono (by omega)) h.cc.tk (a_cons (q_call (Wd.callee h.wd c_paper_base g_paper_base (by rfl)) (h.wd.room.mono (by omega)) h.cc.tk (a_cons (q_var v0) a_nil (by rfl)) (len_cons len_nil).len (by rfl) (by rfl)) (a_cons (q_var v0) a_nil (by rfl)) (by rfl)) (len_cons (len_cons len_nil)).len (by rfl) (by rfl))) (QE.qr (q_op opq_sub (q_rd v0) (QE.qr q_int)))))))))

theorem sc_is_false_in : FnScope N_is_false_in ["base", "great"] (defScope s_is_false_in) := ⟨rfl, rfl, rfl, by decide +kernel, rfl, by decide +kernel, by decide +kernel⟩
theorem der_is_false_in {P : Program} {w : World} {K : PySem.W.Frag} {mg : Str → Option Value} {base : Heap} (T : Hd fa fn K mg) (c_sign_in : CalleeK P w K mg base "sign_in" 1 2 m_sign_in) (c_half_in : CalleeK P w K mg base "half_in" 2 2 m_half_in) {X : Cx} {B : Gr} {W : WX} (h : Bd X W P w K mg base 2 N_is_false_in (defScope s_is_false_in)) : QSs X B W (defBody s_is_false_in) f_is_false_in := by
  have v0 := h.vr (i := 0) (x := "base") (by rfl) (by decide +kernel)
  have v1 := h.vr (i := 1) (x := "great") (by rfl) (by decide +kernel)
  have v2 := h.vr (i := 2) (x := "rest") (by rfl) (by decide +kernel)
  have v3 := h.vr (i := 3) (x := "sign") (by rfl) (by decide +kernel)
  have ll2 := h.ll (i := 2) (x := "rest") (by rfl) (by decide +kernel)
  have ll3 := h.ll (i := 3) (x := "sign") (by rfl) (by decide +kernel)
  have g_half_in := h.gl (x := "half_in") (by decide +kernel)
  have g_sign_in := h.gl (x := "sign_in") (by decide +kernel)
  exact (ss_cons (s_par2 h.cc ll2 ll3 (by decide) (a_cons (q_call (Wd.callee h.wd c_half_in g_half_in (by rfl)) (h.wd.room.mono (by omega)) h.cc.tk (a_cons (q_var v0) (a_cons (q_var v1) a_nil (by rfl)) (by rfl)) (len_cons (len_cons len_nil)).len (by rfl) (by rfl)) (a_cons (q_call (Wd.callee h.wd c_sign_in g_sign_in (by rfl)) (h.wd.room.mono (by omega)) h.cc.tk (a_cons (q_var v0) (a_cons (q_var v1) a_nil (by rfl)) (by rfl)) (len_cons (len_cons len_nil)).len (by rfl) (by rfl)) a_nil (by rfl)) (by rfl)) (sw2 h.cc.kd ll2.loc ll3.loc (by decide +kernel) (by rfl) (by rfl) (by rfl) (by rfl)) (by rfl))
 (ss_cons (s_if (t_cmp (opq_eq (h.wd).hu) (by with_unfolding_all rfl) (q_rd v2) (QE.qr q_int))
  (ss_one (s_ret (q_cmp (opq_ne (h.wd).hu) (by with_unfolding_all rfl) (q_rd v3) (QE.qr q_int))))
  ss_nil)
 (ss_one (s_ret (q_or (q_cmp (opq_ne (h.wd).hu) (by with_unfolding_all rfl) (q_rd v2) (QE.qr (q_op opq_sub (q_rd v1) (QE.qr q_int)))) (q_one (q_cmp (opq_ne (h.wd).hu) (by with_unfolding_all rfl) (q_rd v3) (QE.qr (q_neg q_int)))))))))

theorem sc_is_base_to : FnScope N_is_base_to ["value", "great"] (defScope s_is_base_to) := ⟨rfl, rfl, rfl, by decide +kernel, rfl, by decide +kernel, by decide +kernel⟩
theorem der_is_base_to {P : Program} {w : World} {K : PySem.W.Frag} {mg : Str → Option Value} {base : Heap} (T : Hd fa fn K mg) (c_is_integer : CalleeK P w K mg base "is_integer" 1 1 m_is_integer) {X : Cx} {B : Gr} {W : WX} (h : Bd X W P w K mg base 1 N_is_base_to (defScope s_is_base_to)) : QSs X B W (defBody s_is_base_to) f_is_base_to := by
  have v0 := h.vr (i := 0) (x := "value") (by rfl) (by decide +kernel)
  have v1 := h.vr (i := 1) (x := "great") (by rfl) (by decide +kernel)
  have g_is_integer := h.gl (x := "is_integer") (by decide +kernel)
  exact (ss_one (s_ret (q_and (q_call (Wd.callee h.wd c_is_integer g_is_integer (by rfl)) (h.wd.room.mono (by omega)) h.cc.tk (a_cons (q_var v0) a_nil (by rfl)) (len_cons len_nil).len (by rfl) (by rfl)) (q_one (q_chain opq_le opq_lt (QE.qr q_int) (q_rd v0) (q_rd v1) (by with_unfolding_all rfl))))))

theorem sc_number_above : FnScope N_number_above ["front", "power"] (defScope s_number_above) := ⟨rfl, rfl, rfl, by decide +kernel, rfl, by decide +kernel, by decide +kernel⟩
theorem der_number_above {P : Program} {w : World} {K : PySem.W.Frag} {mg : Str → Option Value} {base : Heap} (T : Hd fa fn K mg) (c_need_two_shape : CalleeK P w K mg base "need_two_shape" 4 2 m_need_two_shape) (c_above_in : CalleeK P w K mg base "above_in" 1 2 m_above_in) {X : Cx} {B : Gr} {W : WX} (h : Bd X W P w K mg base 4 N_number_above (defScope s_number_above)) : QSs X B W (defBody s_number_above) f_number_above := by
  have v0 := h.vr (i := 0) (x := "front") (by rfl) (by decide +kernel)
  have v1 := h.vr (i := 1) (x := "power") (by rfl) (by decide +kernel)
  have g_above_in := h.gl (x := "above_in") (by decide +kernel)
  have g_need_two_shape := h.gl (x := "need_two_shape") (by decide +kernel)
  exact (ss_cons (s_exp (q_call (Wd.callee h.wd c_need_two_shape g_need_two_shape (by rfl)) (h.wd.room.mono (by omega)) h.cc.tk (a_cons (q_var v0) (a_cons (q_var v1) a_nil (by rfl)) (by rfl)) (len_cons (len_cons len_nil)).len (by rfl) (by rfl)) (by rfl))
 (ss_one (s_ret (q_call (Wd.callee h.wd c_above_in g_above_in (by rfl)) (h.wd.room.mono (by omega)) h.cc.tk (a_cons (q_var v0) (a_cons (q_var v1) a_nil (by rfl)) (by rfl)) (len_cons (len_cons len_nil)).len (by rfl) (by rfl)))))

theorem sc_is_shape_prime : FnScope N_is_shape_prime ["front", "power"] (defScope s_is_shape_prime) := ⟨rfl, rfl, rfl, by decide +kernel, rfl, by decide +kernel, by decide +kernel⟩
theorem der_is_shape_prime {P : Program} {w : World} {K : PySem.W.Frag} {mg : Str → Option Value} {base : Heap} (T : Hd fa fn K mg) (c_need_two_shape : CalleeK P w K mg base "need_two_shape" 4 2 m_need_two_shape) (c_above_in : CalleeK P w K mg base "above_in" 1 2 m_above_in) (c_is_prime_above : CalleeK P w K mg base "is_prime_above" 3 1 m_is_prime_above) {X : Cx} {B : Gr} {W : WX} (h : Bd X W P w K mg base 4 N_is_shape_prime (defScope s_is_shape_prime)) : QSs X B W (defBody s_is_shape_prime) f_is_shape_prime := by
  have v0 := h.vr (i := 0) (x := "front") (by rfl) (by decide +kernel)
  have v1 := h.vr (i := 1) (x := "power") (by rfl) (by decide +kernel)
  have g_above_in := h.gl (x := "above_in") (by decide +kernel)
  have g_is_prime_above := h.gl (x := "is_prime_above") (by decide +kernel)
  have g_need_two_shape := h.gl (x := "need_two_shape") (by decide +kernel)
  exact (ss_cons (s_exp (q_call (Wd.callee h.wd c_need_two_shape g_need_two_shape (by rfl)) (h.wd.room.mono (by omega)) h.cc.tk (a_cons (q_var v0) (a_cons (q_var v1) a_nil (by rfl)) (by rfl)) (len_cons (len_cons len_nil)).len (by rfl) (by rfl)) (by rfl))
 (ss_one (s_ret (q_call (Wd.callee h.wd c_is_prime_above g_is_prime_above (by rfl)) (h.wd.room.mono (by omega)) h.cc.tk (a_cons (q_call (Wd.callee h.wd c_above_in g_above_in (by rfl)) (h.wd.room.mono (by omega)) h.cc.tk (a_cons (q_var v0) (a_cons (q_var v1) a_nil (by rfl)) (by rfl)) (len_cons (len_cons len_nil)).len (by rfl) (by rfl)) a_nil (by rfl)) (len_cons len_nil).len (by rfl) (by rfl)))))

theorem sc_proth_paper : FnScope N_proth_paper ["front", "power"] (defScope s_proth_paper) := ⟨rfl, rfl, rfl, by decide +kernel, rfl, by decide +kernel, by decide +kernel⟩
theorem der_proth_paper {P : Program} {w : World} {K : PySem.W.Frag} {mg : Str → Option Value} {base : Heap} (T : Hd fa fn K mg) (c_need_two_shape : CalleeK P w K mg base "need_two_shape" 4 2 m_need_two_shape) (c_above_in : CalleeK P w K mg base "above_in" 1 2 m_above_in) (c_is_prime_above : CalleeK P w K mg base "is_prime_above" 3 1 m_is_prime_above) (c_paper_base : CalleeK P w K mg base "paper_base" 2 1 m_paper_base) {X : Cx} {B : Gr} {W : WX} (h : Bd X W P w K mg base 4 N_proth_paper (defScope s_proth_paper)) : QSs X B W (defBody s_proth_paper) f_proth_paper := by
  have v0 := h.vr (i := 0) (x := "front") (by rfl) (by decide +kernel)
  have v1 := h.vr (i := 1) (x := "power") (by rfl) (by decide +kernel)
  have v2 := h.vr (i := 2) (x := "great") (by rfl) (by decide +kernel)
  have l2 := h.lr (i := 2) (x := "great") (by rfl) (by decide +kernel)
  have g_above_in := h.gl (x := "above_in") (by decide +kernel)
  have g_is_prime_above := h.gl (x := "is_prime_above") (by decide +kernel)
  have g_need_two_shape := h.gl (x := "need_two_shape") (by decide +kernel)
  have g_paper_base := h.gl (x := "paper_base") (by decide +kernel)
  exact (ss_cons (s_exp (q_call (Wd.callee h.wd c_need_two_shape g_need_two_shape (by rfl)) (h.wd.room.mono (by omega)) h.cc.tk (a_cons (q_var v0) (a_cons (q_var v1) a_nil (by rfl)) (by rfl)) (len_cons (len_cons len_nil)).len (by rfl) (by rfl)) (by rfl))
 (ss_cons (s_set l2 (q_call (Wd.callee h.wd c_above_in g_above_in (by rfl)) (h.wd.room.mono (by omega)) h.cc.tk (a_cons (q_var v0) (a_cons (q_var v1) a_nil (by rfl)) (by rfl)) (len_cons (len_cons len_nil)).len (by rfl) (by rfl)) (by rfl))
 (ss_cons (s_if (t_cmp (opq_eq (h.wd).hu) (by with_unfolding_all rfl) (q_rd v2) (QE.qr q_int))
  (ss_one (s_ret q_int))
  ss_nil)
 (ss_one (s_ret (q_if (t_val (q_call (Wd.callee h.wd c_is_prime_above g_is_prime_above (by rfl)) (h.wd.room.mono (by omega)) h.cc.tk (a_cons (q_var v2) a_nil (by rfl)) (len_cons len_nil).len (by rfl) (by rfl)) (fun _ => rfl)) (q_call (Wd.callee h.wd c_paper_base g_paper_base (by rfl)) (h.wd.room.mono (by omega)) h.cc.tk (a_cons (q_var v2) a_nil (by rfl)) (len_cons len_nil).len (by rfl) (by rfl)) q_non))))))

theorem sc_is_proth_paper : FnScope N_is_proth_paper ["front", "power", "value"] (defScope s_is_proth_paper) := ⟨rfl, rfl, rfl, by decide +kernel, rfl, by decide +kernel, by decide +kernel⟩
theorem der_is_proth_paper {P : Program} {w : World} {K : PySem.W.Frag} {mg : Str → Option Value} {base : Heap} (T : Hd fa fn K mg) (c_need_two_shape : CalleeK P w K mg base "need_two_shape" 4 2 m_need_two_shape) (c_above_in : CalleeK P w K mg base "above_in" 1 2 m_above_in) (c_is_base_to : CalleeK P w K mg base "is_base_to" 2 2 m_is_base_to) (c_half_in : CalleeK P w K mg base "half_in" 2 2 m_half_in) {X : Cx} {B : Gr} {W : WX} (h : Bd X W P w K mg base 4 N_is_proth_paper (defScope s_is_proth_paper)) : QSs X B W (defBody s_is_proth_paper) f_is_proth_paper := by
  have v0 := h.vr (i := 0) (x := "front") (by rfl) (by decide +kernel)
  have v1 := h.vr (i := 1) (x := "power") (by rfl) (by decide +kernel)
  have v2 := h.vr (i := 2) (x := "value") (by rfl) (by decide +kernel)
  have v3 := h.vr (i := 3) (x := "great") (by rfl) (by decide +kernel)
  have l3 := h.lr (i := 3) (x := "great") (by rfl) (by decide +kernel)
  have g_above_in := h.gl (x := "above_in") (by decide +kernel)
  have g_half_in := h.gl (x := "half_in") (by decide +kernel)
  have g_is_base_to := h.gl (x := "is_base_to") (by decide +kernel)
  have g_need_two_shape := h.gl (x := "need_two_shape") (by decide +kernel)
  exact (ss_cons (s_exp (q_call (Wd.callee h.wd c_need_two_shape g_need_two_shape (by rfl)) (h.wd.room.mono (by omega)) h.cc.tk (a_cons (q_var v0) (a_cons (q_var v1) a_nil (by rfl)) (by rfl)) (len_cons (len_cons len_nil)).len (by rfl) (by rfl)) (by rfl))
 (ss_cons (s_set l3 (q_call (Wd.callee h.wd c_above_in g_above_in (by rfl)) (h.wd.room.mono (by omega)) h.cc.tk (a_cons (q_var v0) (a_cons (q_var v1) a_nil (by rfl)) (by rfl)) (len_cons (len_cons len_nil)).len (by rfl) (by rfl)) (by rfl))
 (ss_one (s_ret (q_and (q_call (Wd.callee h.wd c_is_base_to g_is_base_to (by rfl)) (h.wd.room.mono (by omega)) h.cc.tk (a_cons (q_var v2) (a_cons (q_var v3) a_nil (by rfl)) (by rfl)) (len_cons (len_cons len_nil)).len (by rfl) (by rfl)) (q_one (q_cmp (opq_eq (h.wd).hu) (by with_unfolding_all rfl) (QE.qr (q_call (Wd.callee h.wd c_half_in g_half_in (by rfl)) (h.wd.room.mono (by omega)) h.cc.tk (a_cons (q_var v2) (a_cons (q_var v3) a_nil (by rfl)) (by rfl)) (len_cons (len_cons len_nil)).len (by rfl) (by rfl))) (QE.qr (q_op opq_sub (q_rd v3) (QE.qr q_int))))))))))

theorem sc_false_paper : FnScope N_false_paper ["front", "power"] (defScope s_false_paper) := ⟨rfl, rfl, rfl, by decide +kernel, rfl, by decide +kernel, by decide +kernel⟩
theorem der_false_paper {P : Program} {w : World} {K : PySem.W.Frag} {mg : Str → Option Value} {base : Heap} (T : Hd fa fn K mg) (c_need_two_shape : CalleeK P w K mg base "need_two_shape" 4 2 m_need_two_shape) (c_above_in : CalleeK P w K mg base "above_in" 1 2 m_above_in) (c_is_prime_above : CalleeK P w K mg base "is_prime_above" 3 1 m_is_prime_above) (c_is_false_in : CalleeK P w K mg base "is_false_in" 3 2 m_is_false_in) {X : Cx} {B : Gr} {W : WX} (h : Bd X W P w K mg base 4 N_false_paper (defScope s_false_paper)) : QSs X B W (defBody s_false_paper) f_false_paper := by
  have v0 := h.vr (i := 0) (x := "front") (by rfl) (by decide +kernel)
  have v1 := h.vr (i := 1) (x := "power") (by rfl) (by decide +kernel)
  have v2 := h.vr (i := 2) (x := "great") (by rfl) (by decide +kernel)
  have v3 := h.vr (i := 3) (x := "base") (by rfl) (by decide +kernel)
  have l3 := h.lr (i := 3) (x := "base") (by rfl) (by decide +kernel)
  have ll2 := h.ll (i := 2) (x := "great") (by rfl) (by decide +kernel)
  have ll3 := h.ll (i := 3) (x := "base") (by rfl) (by decide +kernel)
  have g_above_in := h.gl (x := "above_in") (by decide +kernel)
  have g_is_false_in := h.gl (x := "is_false_in") (by decide +kernel)
  have g_is_prime_above := h.gl (x := "is_prime_above") (by decide +kernel)
  have g_need_two_shape := h.gl (x := "need_two_shape") (by decide +kernel)
  exact (ss_cons (s_exp (q_call (Wd.callee h.wd c_need_two_shape g_need_two_shape (by rfl)) (h.wd.room.mono (by omega)) h.cc.tk (a_cons (q_var v0) (a_cons (q_var v1) a_nil (by rfl)) (by rfl)) (len_cons (len_cons len_nil)).len (by rfl) (by rfl)) (by rfl))
 (ss_cons (s_par2 h.cc ll2 ll3 (by decide) (a_cons (q_call (Wd.callee h.wd c_above_in g_above_in (by rfl)) (h.wd.room.mono (by omega)) h.cc.tk (a_cons (q_var v0) (a_cons (q_var v1) a_nil (by rfl)) (by rfl)) (len_cons (len_cons len_nil)).len (by rfl) (by rfl)) (a_cons q_int a_nil (by rfl)) (by rfl)) (sw2 h.cc.kd ll2.loc ll3.loc (by decide +kernel) (by rfl) (by rfl) (by rfl) (by rfl)) (by rfl))
 (ss_cons (s_if (t_val (q_call (Wd.callee h.wd c_is_prime_above g_is_prime_above (by rfl)) (h.wd.room.mono (by omega)) h.cc.tk (a_cons (q_var v2) a_nil (by rfl)) (len_cons len_nil).len (by rfl) (by rfl)) (fun _ => rfl))
  (ss_one (s_ret q_non))
  ss_nil)
 (ss_cons (s_while h.cc (t_not (t_val (q_call (Wd.callee h.wd c_is_false_in g_is_false_in (by rfl)) (h.wd.room.mono (by omega)) h.cc.tk (a_cons (q_var v3) (a_cons (q_var v2) a_nil (by rfl)) (by rfl)) (len_cons (len_cons len_nil)).len (by rfl) (by rfl)) (fun _ => rfl)))
  (ss_one (s_set l3 (q_op opq_add (q_rd v3) (QE.qr q_int)) (by rfl))))
 (ss_one (s_ret (q_var v3)))))))

theorem sc__law_cup : FnScope N__law_cup ["script"] (defScope s__law_cup) := ⟨rfl, rfl, rfl, by decide +kernel, rfl, by decide +kernel, by decide +kernel⟩
theorem der__law_cup {P : Program} {w : World} {K : PySem.W.Frag} {mg : Str → Option Value} {base : Heap} (T : Hd fa fn K mg) {X : Cx} {B : Gr} {W : WX} (h : Bd X W P w K mg base 0 N__law_cup (defScope s__law_cup)) : QSs X B W (defBody s__law_cup) f__law_cup := by
  have v0 := h.vr (i := 0) (x := "script") (by rfl) (by decide +kernel)
  have v1 := h.vr (i := 1) (x := "cell") (by rfl) (by decide +kernel)
  have l1 := h.lr (i := 1) (x := "cell") (by rfl) (by decide +kernel)
  have g_abs := h.gl (x := "abs") (by decide +kernel)
  have g_int := h.gl (x := "int") (by decide +kernel)
  have g_list := h.gl (x := "list") (by decide +kernel)
  exact (ss_cons (s_set l1 (q_cb cq_abs (h.wd.blt (T.free 46 (by rfl)) g_abs) boot_abs (by decide) (by rfl) (ar_cons (QE.qr (q_ix (fun _ _ => rfl) (QE.qr (q_op opq_add (QE.qr (q_ct cq_list (h.wd.blt (T.free 51 (by rfl)) g_list) boot_list (by decide) (by rfl) (ar_cons (q_rd v0) ar_nil (by rfl)) (by rfl) (by rfl))) (QE.qr (QF.qe (f_lst (a_cons q_int a_nil (by rfl))))))) (QE.qr q_int))) ar_nil (by rfl)) (by rfl) (by rfl)) (by rfl))
 (ss_one (s_retH (f_lst (a_cons (q_if (t_cmp opq_ge (by with_unfolding_all rfl) (q_rd v1) (QE.qr (q_op opq_pow (QE.qr q_int) (QE.qr q_int)))) (q_op opq_div (q_rd v1) (QE.qr q_int)) q_int) (a_cons (q_op opq_add (QE.qr (q_op opq_mod (QE.qr (q_ct cq_int (h.wd.blt (T.free 48 (by rfl)) g_int) boot_int (by decide) (by rfl) (ar_cons (QE.qr (q_op opq_add (QE.qr (q_op opq_mul (q_rd v1) (QE.qr q_int))) (QE.qr q_int))) ar_nil (by rfl)) (by rfl) (by rfl))) (QE.qr q_int))) (QE.qr q_int)) a_nil (by rfl)) (by rfl))))))

theorem sc__law_roll : FnScope N__law_roll ["cup", "many"] (defScope s__law_roll) := ⟨rfl, rfl, rfl, by decide +kernel, rfl, by decide +kernel, by decide +kernel⟩
theorem der__law_roll {P : Program} {w : World} {K : PySem.W.Frag} {mg : Str → Option Value} {base : Heap} (T : Hd fa fn K mg) {X : Cx} {B : Gr} {W : WX} (h : Bd X W P w K mg base 0 N__law_roll (defScope s__law_roll)) : QSs X B W (defBody s__law_roll) f__law_roll := by
  have v0 := h.vr (i := 0) (x := "cup") (by rfl) (by decide +kernel)
  have v1 := h.vr (i := 1) (x := "many") (by rfl) (by decide +kernel)
  have v2 := h.vr (i := 2) (x := "found") (by rfl) (by decide +kernel)
  have v3 := h.vr (i := 3) (x := "deep") (by rfl) (by decide +kernel)
  have l2 := h.lr (i := 2) (x := "found") (by rfl) (by decide +kernel)
  have l3 := h.lr (i := 3) (x := "deep") (by rfl) (by decide +kernel)
  have g_int := h.gl (x := "int") (by decide +kernel)
  exact (ss_cons (s_if (t_cmp opq_gt (by with_unfolding_all rfl) (QE.qr (q_ixH v0 (fun _ _ => rfl))) (QE.qr q_int))
  (ss_cons (s_set l2 (q_op opq_mod (QE.qr (q_ct cq_int (h.wd.blt (T.free 48 (by rfl)) g_int) boot_int (by decide) (by rfl) (ar_cons (QE.qr (q_ixH v0 (fun _ _ => rfl))) ar_nil (by rfl)) (by rfl) (by rfl))) (q_rd v1)) (by rfl))
 (ss_cons (s_setIxH v0 (q_op opq_div (QE.qr (q_ixH v0 (fun _ _ => rfl))) (q_rd v1)) (fun _ => rfl) (by rfl) (by rfl) (by rfl))
 (ss_one (s_ret (q_var v2)))))
  ss_nil)
 (ss_cons (s_setIxH v0 (q_op opq_mod (QE.qr (q_ct cq_int (h.wd.blt (T.free 48 (by rfl)) g_int) boot_int (by decide) (by rfl) (ar_cons (QE.qr (q_op opq_add (QE.qr (q_op opq_mul (QE.qr (q_ixH v0 (fun _ _ => rfl))) (QE.qr q_int))) (QE.qr q_int))) ar_nil (by rfl)) (by rfl) (by rfl))) (QE.qr q_int)) (fun _ => rfl) (by rfl) (by rfl) (by rfl))
 (ss_cons (s_set l3 (q_op opq_mod (QE.qr (q_ct cq_int (h.wd.blt (T.free 48 (by rfl)) g_int) boot_int (by decide) (by rfl) (ar_cons (QE.qr (q_op opq_mul (QE.qr (q_ixH v0 (fun _ _ => rfl))) (QE.qr (q_op opq_add (QE.qr (q_ixH v0 (fun _ _ => rfl))) (QE.qr q_int))))) ar_nil (by rfl)) (by rfl) (by rfl))) (QE.qr q_int)) (by rfl))
 (ss_one (s_ret (q_op opq_mod (QE.qr (q_ct cq_int (h.wd.blt (T.free 48 (by rfl)) g_int) boot_int (by decide) (by rfl) (ar_cons (QE.qr (q_op opq_div (q_rd v3) (QE.qr q_int))) ar_nil (by rfl)) (by rfl) (by rfl))) (q_rd v1)))))))

theorem sc__law_some : FnScope N__law_some ["cup", "things"] (defScope s__law_some) := ⟨rfl, rfl, rfl, by decide +kernel, rfl, by decide +kernel, by decide +kernel⟩
theorem der__law_some {P : Program} {w : World} {K : PySem.W.Frag} {mg : Str → Option Value} {base : Heap} (T : Hd fa fn K mg) (c__law_roll : CalleeK P w K mg base "_law_roll" 1 2 m__law_roll) {X : Cx} {B : Gr} {W : WX} (h : Bd X W P w K mg base 1 N__law_some (defScope s__law_some)) : QSs X B W (defBody s__law_some) f__law_some := by
  have v0 := h.vr (i := 0) (x := "cup") (by rfl) (by decide +kernel)
  have v1 := h.vr (i := 1) (x := "things") (by rfl) (by decide +kernel)
  have g__law_roll := h.gl (x := "_law_roll") (by decide +kernel)
  have g_len := h.gl (x := "len") (by decide +kernel)
  exact (ss_one (s_ret (q_ix (fun _ _ => rfl) (q_rd v1) (QE.qr (q_call (Wd.callee h.wd c__law_roll g__law_roll (by rfl)) (h.wd.room.mono (by omega)) h.cc.tk (a_cons (q_var v0) (a_cons (q_cb cq_len (h.wd.blt (T.free 50 (by rfl)) g_len) boot_len (by decide) (by rfl) (ar_cons (q_rd v1) ar_nil (by rfl)) (by rfl) (by rfl)) a_nil (by rfl)) (by rfl)) (len_cons (len_cons len_nil)).len (by rfl) (by rfl))))))

theorem sc__law_sort : FnScope N__law_sort ["value"] (defScope s__law_sort) := ⟨rfl, rfl, rfl, by decide +kernel, rfl, by decide +kernel, by decide +kernel⟩
theorem der__law_sort {P : Program} {w : World} {K : PySem.W.Frag} {mg : Str → Option Value} {base : Heap} (T : Hd fa fn K mg) {X : Cx} {B : Gr} {W : WX} (h : Bd X W P w K mg base 0 N__law_sort (defScope s__law_sort)) : QSs X B W (defBody s__law_sort) f__law_sort := by
  have v0 := h.vr (i := 0) (x := "value") (by rfl) (by decide +kernel)
  have g_bool := h.gl (x := "bool") (by decide +kernel)
  have g_int := h.gl (x := "int") (by decide +kernel)
  have g_isinstance := h.gl (x := "isinstance") (by decide +kernel)
  have g_list := h.gl (x := "list") (by decide +kernel)
  have g_str := h.gl (x := "str") (by decide +kernel)
  have g_tuple := h.gl (x := "tuple") (by decide +kernel)
  exact (ss_cons (s_if (t_w (w_or (t_cmp opq_is (by with_unfolding_all rfl) (q_rd v0) (QE.qr q_non)) (w_or1 (t_val (q_cb cq_isi (h.wd.blt (T.free 49 (by rfl)) g_isinstance) boot_isinstance (by decide) (by rfl) (ar_cons (q_rd v0) (ar_cons (QE.qr (q_ty (h.wd.blt (T.free 47 (by rfl)) g_bool) boot_bool (by decide) (by rfl))) ar_nil (by rfl)) (by rfl)) (by rfl) (by rfl)) (fun _ => rfl)))))
  (ss_one (s_ret (q_if (t_cmp opq_is (by with_unfolding_all rfl) (q_rd v0) (QE.qr q_non)) q_int q_int)))
  ss_nil)
 (ss_cons (s_if (t_w (w_or (t_val (q_cb cq_isi (h.wd.blt (T.free 49 (by rfl)) g_isinstance) boot_isinstance (by decide) (by rfl) (ar_cons (q_rd v0) (ar_cons (QE.qr (q_ty (h.wd.blt (T.free 48 (by rfl)) g_int) boot_int (by decide) (by rfl))) ar_nil (by rfl)) (by rfl)) (by rfl) (by rfl)) (fun _ => rfl)) (w_or1 (t_val (q_cb cq_isi (h.wd.blt (T.free 49 (by rfl)) g_isinstance) boot_isinstance (by decide) (by rfl) (ar_cons (q_rd v0) (ar_cons (QE.qr (q_ty (h.wd.blt (T.free 54 (by rfl)) g_str) boot_str (by decide) (by rfl))) ar_nil (by rfl)) (by rfl)) (by rfl) (by rfl)) (fun _ => rfl)))))
  (ss_one (s_ret (q_if (t_val (q_cb cq_isi (h.wd.blt (T.free 49 (by rfl)) g_isinstance) boot_isinstance (by decide) (by rfl) (ar_cons (q_rd v0) (ar_cons (QE.qr (q_ty (h.wd.blt (T.free 48 (by rfl)) g_int) boot_int (by decide) (by rfl))) ar_nil (by rfl)) (by rfl)) (by rfl) (by rfl)) (fun _ => rfl)) q_int q_int)))
  ss_nil)
 (ss_one (s_ret (q_if (t_val (q_cb cq_isi (h.wd.blt (T.free 49 (by rfl)) g_isinstance) boot_isinstance (by decide) (by rfl) (ar_cons (q_rd v0) (ar_cons (QE.qr (q_ty (h.wd.blt (T.free 55 (by rfl)) g_tuple) boot_tuple (by decide) (by rfl))) ar_nil (by rfl)) (by rfl)) (by rfl) (by rfl)) (fun _ => rfl)) q_int (q_if (t_val (q_cb cq_isi (h.wd.blt (T.free 49 (by rfl)) g_isinstance) boot_isinstance (by decide) (by rfl) (ar_cons (q_rd v0) (ar_cons (QE.qr (q_ty (h.wd.blt (T.free 51 (by rfl)) g_list) boot_list (by decide) (by rfl))) ar_nil (by rfl)) (by rfl)) (by rfl) (by rfl)) (fun _ => rfl)) q_int q_int))))))

theorem sc__law_like : FnScope N__law_like ["one", "other"] (defScope s__law_like) := ⟨rfl, rfl, rfl, by decide +kernel, rfl, by decide +kernel, by decide +kernel⟩
theorem der__law_like {P : Program} {w : World} {K : PySem.W.Frag} {mg : Str → Option Value} {base : Heap} (T : Hd fa fn K mg) (c__law_sort : CalleeK P w K mg base "_law_sort" 1 1 m__law_sort) {lv : Nat} {mr : MF} (hlv : 1 ≤ lv) (c__law_like : CalleeK P w K mg base "_law_like" lv 2 mr) {X : Cx} {B : Gr} {W : WX} (h : Bd X W P w K mg base lv N__law_like (defScope s__law_like)) : QSs X B W (defBody s__law_like) (f__law_like mr) := by
  have v0 := h.vr (i := 0) (x := "one") (by rfl) (by decide +kernel)
  have v1 := h.vr (i := 1) (x := "other") (by rfl) (by decide +kernel)
  have v2 := h.vr (i := 2) (x := "sort") (by rfl) (by decide +kernel)
  have l2 := h.lr (i := 2) (x := "sort") (by rfl) (by decide +kernel)
  have n3 : X.N[3]? = some ("first" : Str) := by rw [h.hN]; rfl
  have n4 : X.N[4]? = some ("second" : Str) := by rw [h.hN]; rfl
  have g__law_sort := h.gl (x := "_law_sort") (by decide +kernel)
  have g_len := h.gl (x := "len") (by decide +kernel)
  have g_zip := h.gl (x := "zip") (by decide +kernel)
  exact (ss_cons (s_set l2 (q_call (Wd.callee h.wd c__law_sort g__law_sort (by rfl)) (h.wd.room.mono (by omega)) h.cc.tk (a_cons (q_var v1) a_nil (by rfl)) (len_cons len_nil).len (by rfl) (by rfl)) (by rfl))
 (ss_cons (s_if (t_w (w_or (t_cmp (opq_ne (h.wd).hu) (by with_unfolding_all rfl) (QE.qr (q_call (Wd.callee h.wd c__law_sort g__law_sort (by rfl)) (h.wd.room.mono (by omega)) h.cc.tk (a_cons (q_var v0) a_nil (by rfl)) (len_cons len_nil).len (by rfl) (by rfl))) (q_rd v2)) (w_or1 (t_cmp (opq_eq (h.wd).hu) (by with_unfolding_all rfl) (q_rd v2) (QE.qr q_int)))))
  (ss_one (s_ret q_bl))
  ss_nil)
 (ss_cons (s_if (t_cmp opq_in (by with_unfolding_all rfl) (q_rd v2) (QE.qr (q_tup (a_cons q_int (a_cons q_int a_nil (by rfl)) (by rfl)))))
  (ss_one (s_ret (q_and (q_cmp (opq_eq (h.wd).hu) (by with_unfolding_all rfl) (QE.qr (q_cb cq_len (h.wd.blt (T.free 50 (by rfl)) g_len) boot_len (by decide) (by rfl) (ar_cons (q_rd v0) ar_nil (by rfl)) (by rfl) (by rfl))) (QE.qr (q_cb cq_len (h.wd.blt (T.free 50 (by rfl)) g_len) boot_len (by decide) (by rfl) (ar_cons (q_rd v1) ar_nil (by rfl)) (by rfl) (by rfl)))) (q_one (q_cmp (opq_eq (h.wd).hu) (by with_unfolding_all rfl) (QE.qr (QF.qe (f_lcT h.cc (i_zip (h.wd.blt (T.free 56 (by rfl)) g_zip) (a_cons (q_var v0) (a_cons (q_var v1) a_nil (by rfl)) (by rfl)) (by rfl) (by rfl)) (own := [("first", 3), ("second", 4)]) (by rw [h.hN, h.hsc]; decide +kernel) (fun s1 H1 C1 cl1 fp1 => (g_tup (Cc.blk h.cc (by rfl)).calm (gs_cons (g_name (lr_blk h.cc.nd n3 (by decide +kernel))) (gs_cons (g_name (lr_blk h.cc.nd n4 (by decide +kernel))) gs_nil (by rfl)) (by rfl)) (gl_cons (gl_cons gl_nil)).len (by rfl) (by rfl))) (fun s1 H1 C1 cl1 fp1 => (t_not (t_val (q_call (Wd.callee (Wd.blk h.wd) c__law_like (gl_blk (by decide +kernel)) (by rfl)) ((Wd.blk h.wd).room.mono (by omega)) takes0 (a_cons (q_var (vr_blk n3 (by decide +kernel) (by rfl) (by rfl))) (a_cons (q_var (vr_blk n4 (by decide +kernel) (by rfl) (by rfl))) a_nil (by rfl)) (by rfl)) (len_cons (len_cons len_nil)).len (by rfl) (by rfl)) (fun _ => rfl)))) (fun s1 H1 C1 cl1 fp1 => q_int) (by decide) (fun _ => rfl)))) (QE.qr (QF.qe (f_lst a_nil))))))))
  ss_nil)
 (ss_one (s_ret (q_cmp (opq_eq (h.wd).hu) (by with_unfolding_all rfl) (q_rd v0) (q_rd v1)))))))

theorem sc__law_is_prime : FnScope N__law_is_prime ["number"] (defScope s__law_is_prime) := ⟨rfl, rfl, rfl, by decide +kernel, rfl, by decide +kernel, by decide +kernel⟩
theorem der__law_is_prime {P : Program} {w : World} {K : PySem.W.Frag} {mg : Str → Option Value} {base : Heap} (T : Hd fa fn K mg) {X : Cx} {B : Gr} {W : WX} (h : Bd X W P w K mg base 0 N__law_is_prime (defScope s__law_is_prime)) : QSs X B W (defBody s__law_is_prime) f__law_is_prime := by
  have v0 := h.vr (i := 0) (x := "number") (by rfl) (by decide +kernel)
  have v1 := h.vr (i := 1) (x := "found") (by rfl) (by decide +kernel)
  have l1 := h.lr (i := 1) (x := "found") (by rfl) (by decide +kernel)
  have g_int := h.gl (x := "int") (by decide +kernel)
  exact (ss_cons (s_if (t_cmp opq_lt (by with_unfolding_all rfl) (q_rd v0) (QE.qr q_int))
  (ss_one (s_ret q_bl))
  ss_nil)
 (ss_cons (s_set l1 q_int (by rfl))
 (ss_cons (s_while h.cc (t_cmp opq_le (by with_unfolding_all rfl) (QE.qr (q_op opq_mul (q_rd v1) (q_rd v1))) (q_rd v0))
  (ss_cons (s_if (t_cmp (opq_eq (h.wd).hu) (by with_unfolding_all rfl) (QE.qr (q_op opq_mod (QE.qr (q_ct cq_int (h.wd.blt (T.free 48 (by rfl)) g_int) boot_int (by decide) (by rfl) (ar_cons (q_rd v0) ar_nil (by rfl)) (by rfl) (by rfl))) (q_rd v1))) (QE.qr q_int))
  (ss_one (s_ret q_bl))
  ss_nil)
 (ss_one (s_set l1 (q_op opq_add (q_rd v1) (QE.qr q_int)) (by rfl)))))
 (ss_one (s_ret q_bl)))))

theorem sc__law_power : FnScope N__law_power ["one", "times", "number"] (defScope s__law_power) := ⟨rfl, rfl, rfl, by decide +kernel, rfl, by decide +kernel, by decide +kernel⟩
theorem der__law_power {P : Program} {w : World} {K : PySem.W.Frag} {mg : Str → Option Value} {base : Heap} (T : Hd fa fn K mg) {X : Cx} {B : Gr} {W : WX} (h : Bd X W P w K mg base 0 N__law_power (defScope s__law_power)) : QSs X B W (defBody s__law_power) f__law_power := by
  have v0 := h.vr (i := 0) (x := "one") (by rfl) (by decide +kernel)
  have v1 := h.vr (i := 1) (x := "times") (by rfl) (by decide +kernel)
  have v2 := h.vr (i := 2) (x := "number") (by rfl) (by decide +kernel)
  have v3 := h.vr (i := 3) (x := "found") (by rfl) (by decide +kernel)
  have v4 := h.vr (i := 4) (x := "here") (by rfl) (by decide +kernel)
  have l3 := h.lr (i := 3) (x := "found") (by rfl) (by decide +kernel)
  have ll1 := h.ll (i := 1) (x := "times") (by rfl) (by decide +kernel)
  have ll3 := h.ll (i := 3) (x := "found") (by rfl) (by decide +kernel)
  have ll4 := h.ll (i := 4) (x := "here") (by rfl) (by decide +kernel)
  have g_int := h.gl (x := "int") (by decide +kernel)
  exact (ss_cons (s_par2 h.cc ll3 ll4 (by decide) (a_cons q_int (a_cons (q_op opq_mod (QE.qr (q_ct cq_int (h.wd.blt (T.free 48 (by rfl)) g_int) boot_int (by decide) (by rfl) (ar_cons (q_rd v0) ar_nil (by rfl)) (by rfl) (by rfl))) (q_rd v2)) a_nil (by rfl)) (by rfl)) (sw2 h.cc.kd ll3.loc ll4.loc (by decide +kernel) (by rfl) (by rfl) (by rfl) (by rfl)) (by rfl))
 (ss_cons (s_while h.cc (t_cmp opq_gt (by with_unfolding_all rfl) (q_rd v1) (QE.qr q_int))
  (ss_cons (s_set l3 (q_if (t_cmp (opq_eq (h.wd).hu) (by with_unfolding_all rfl) (QE.qr (q_op opq_mod (QE.qr (q_ct cq_int (h.wd.blt (T.free 48 (by rfl)) g_int) boot_int (by decide) (by rfl) (ar_cons (q_rd v1) ar_nil (by rfl)) (by rfl) (by rfl))) (QE.qr q_int))) (QE.qr q_int)) (q_op opq_mod (QE.qr (q_ct cq_int (h.wd.blt (T.free 48 (by rfl)) g_int) boot_int (by decide) (by rfl) (ar_cons (QE.qr (q_op opq_mul (q_rd v3) (q_rd v4))) ar_nil (by rfl)) (by rfl) (by rfl))) (q_rd v2)) (q_var v3)) (by rfl))
 (ss_one (s_par2 h.cc ll4 ll1 (by decide) (a_cons (q_op opq_mod (QE.qr (q_ct cq_int (h.wd.blt (T.free 48 (by rfl)) g_int) boot_int (by decide) (by rfl) (ar_cons (QE.qr (q_op opq_mul (q_rd v4) (q_rd v4))) ar_nil (by rfl)) (by rfl) (by rfl))) (q_rd v2)) (a_cons (q_ct cq_int (h.wd.blt (T.free 48 (by rfl)) g_int) boot_int (by decide) (by rfl) (ar_cons (QE.qr (q_op opq_div (q_rd v1) (QE.qr q_int))) ar_nil (by rfl)) (by rfl) (by rfl)) a_nil (by rfl)) (by rfl)) (sw2 h.cc.kd ll4.loc ll1.loc (by decide +kernel) (by rfl) (by rfl) (by rfl) (by rfl)) (by rfl)))))
 (ss_one (s_ret (q_op opq_mod (QE.qr (q_ct cq_int (h.wd.blt (T.free 48 (by rfl)) g_int) boot_int (by decide) (by rfl) (ar_cons (q_rd v3) ar_nil (by rfl)) (by rfl) (by rfl))) (q_rd v2))))))

theorem sc__law_above : FnScope N__law_above ["front", "power"] (defScope s__law_above) := ⟨rfl, rfl, rfl, by decide +kernel, rfl, by decide +kernel, by decide +kernel⟩
theorem der__law_above {P : Program} {w : World} {K : PySem.W.Frag} {mg : Str → Option Value} {base : Heap} (T : Hd fa fn K mg) {X : Cx} {B : Gr} {W : WX} (h : Bd X W P w K mg base 0 N__law_above (defScope s__law_above)) : QSs X B W (defBody s__law_above) f__law_above := by
  have v0 := h.vr (i := 0) (x := "front") (by rfl) (by decide +kernel)
  have v1 := h.vr (i := 1) (x := "power") (by rfl) (by decide +kernel)
  have v2 := h.vr (i := 2) (x := "found") (by rfl) (by decide +kernel)
  have l2 := h.lr (i := 2) (x := "found") (by rfl) (by decide +kernel)
  have l3 := h.lr (i := 3) (x := "turn") (by rfl) (by decide +kernel)
  have g_range := h.gl (x := "range") (by decide +kernel)
  exact (ss_cons (s_set l2 (q_var v0) (by rfl))
 (ss_cons (s_for h.cc (i_r1 (h.wd.blt (T.free 53 (by rfl)) g_range) (a_cons (q_var v1) a_nil (by rfl)) (by rfl)) (g_name l3)
  (ss_one (s_set l2 (q_op opq_mul (QE.qr q_int) (q_rd v2)) (by rfl))) (fun _ => rfl))
 (ss_one (s_ret (q_op opq_add (q_rd v2) (QE.qr q_int))))))

theorem sc__law_sign : FnScope N__law_sign ["one", "odd"] (defScope s__law_sign) := ⟨rfl, rfl, rfl, by decide +kernel, rfl, by decide +kernel, by decide +kernel⟩
theorem der__law_sign {P : Program} {w : World} {K : PySem.W.Frag} {mg : Str → Option Value} {base : Heap} (T : Hd fa fn K mg) {X : Cx} {B : Gr} {W : WX} (h : Bd X W P w K mg base 0 N__law_sign (defScope s__law_sign)) : QSs X B W (defBody s__law_sign) f__law_sign := by
  have v0 := h.vr (i := 0) (x := "one") (by rfl) (by decide +kernel)
  have v1 := h.vr (i := 1) (x := "odd") (by rfl) (by decide +kernel)
  have v2 := h.vr (i := 2) (x := "sign") (by rfl) (by decide +kernel)
  have v3 := h.vr (i := 3) (x := "top") (by rfl) (by decide +kernel)
  have v4 := h.vr (i := 4) (x := "below") (by rfl) (by decide +kernel)
  have l2 := h.lr (i := 2) (x := "sign") (by rfl) (by decide +kernel)
  have ll2 := h.ll (i := 2) (x := "sign") (by rfl) (by decide +kernel)
  have ll3 := h.ll (i := 3) (x := "top") (by rfl) (by decide +kernel)
  have ll4 := h.ll (i := 4) (x := "below") (by rfl) (by decide +kernel)
  have g_int := h.gl (x := "int") (by decide +kernel)
  exact (ss_cons (s_par3 h.cc ll2 ll3 ll4 (by decide) (by decide) (by decide) (a_cons q_int (a_cons (q_op opq_mod (QE.qr (q_ct cq_int (h.wd.blt (T.free 48 (by rfl)) g_int) boot_int (by decide) (by rfl) (ar_cons (q_rd v0) ar_nil (by rfl)) (by rfl) (by rfl))) (q_rd v1)) (a_cons (q_var v1) a_nil (by rfl)) (by rfl)) (by rfl)) (sw3 h.cc.kd ll2.loc ll3.loc ll4.loc (by decide +kernel) (by rfl) (by rfl) (by rfl) (by rfl) (by rfl)) (by rfl))
 (ss_cons (s_while h.cc (t_cmp (opq_ne (h.wd).hu) (by with_unfolding_all rfl) (q_rd v3) (QE.qr q_int))
  (ss_cons (s_while h.cc (t_cmp (opq_eq (h.wd).hu) (by with_unfolding_all rfl) (QE.qr (q_op opq_mod (QE.qr (q_ct cq_int (h.wd.blt (T.free 48 (by rfl)) g_int) boot_int (by decide) (by rfl) (ar_cons (q_rd v3) ar_nil (by rfl)) (by rfl) (by rfl))) (QE.qr q_int))) (QE.qr q_int))
  (ss_one (s_par2 h.cc ll3 ll2 (by decide) (a_cons (q_ct cq_int (h.wd.blt (T.free 48 (by rfl)) g_int) boot_int (by decide) (by rfl) (ar_cons (QE.qr (q_op opq_div (q_rd v3) (QE.qr q_int))) ar_nil (by rfl)) (by rfl) (by rfl)) (a_cons (q_if (t_cmp opq_in (by with_unfolding_all rfl) (QE.qr (q_op opq_mod (QE.qr (q_ct cq_int (h.wd.blt (T.free 48 (by rfl)) g_int) boot_int (by decide) (by rfl) (ar_cons (q_rd v4) ar_nil (by rfl)) (by rfl) (by rfl))) (QE.qr q_int))) (QE.qr (q_tup (a_cons q_int (a_cons q_int a_nil (by rfl)) (by rfl))))) (q_op opq_sub (QE.qr q_int) (q_rd v2)) (q_var v2)) a_nil (by rfl)) (by rfl)) (sw2 h.cc.kd ll3.loc ll2.loc (by decide +kernel) (by rfl) (by rfl) (by rfl) (by rfl)) (by rfl))))
 (ss_cons (s_set l2 (q_if (t_w (w_and (t_cmp (opq_eq (h.wd).hu) (by with_unfolding_all rfl) (QE.qr (q_op opq_mod (QE.qr (q_ct cq_int (h.wd.blt (T.free 48 (by rfl)) g_int) boot_int (by decide) (by rfl) (ar_cons (q_rd v3) ar_nil (by rfl)) (by rfl) (by rfl))) (QE.qr q_int))) (QE.qr q_int)) (w_and1 (t_cmp (opq_eq (h.wd).hu) (by with_unfolding_all rfl) (QE.qr (q_op opq_mod (QE.qr (q_ct cq_int (h.wd.blt (T.free 48 (by rfl)) g_int) boot_int (by decide) (by rfl) (ar_cons (q_rd v4) ar_nil (by rfl)) (by rfl) (by rfl))) (QE.qr q_int))) (QE.qr q_int))))) (q_op opq_sub (QE.qr q_int) (q_rd v2)) (q_var v2)) (by rfl))
 (ss_one (s_par2 h.cc ll3 ll4 (by decide) (a_cons (q_op opq_mod (QE.qr (q_ct cq_int (h.wd.blt (T.free 48 (by rfl)) g_int) boot_int (by decide) (by rfl) (ar_cons (q_rd v4) ar_nil (by rfl)) (by rfl) (by rfl))) (q_rd v3)) (a_cons (q_var v3) a_nil (by rfl)) (by rfl)) (sw2 h.cc.kd ll3.loc ll4.loc (by decide +kernel) (by rfl) (by rfl) (by rfl) (by rfl)) (by rfl))))))
 (ss_one (s_ret (q_if (t_cmp (opq_eq (h.wd).hu) (by with_unfolding_all rfl) (q_rd v4) (QE.qr q_int)) (q_var v2) q_int)))))

theorem sc__law_half : FnScope N__law_half ["base", "great"] (defScope s__law_half) := ⟨rfl, rfl, rfl, by decide +kernel, rfl, by decide +kernel, by decide +kernel⟩
theorem der__law_half {P : Program} {w : World} {K : PySem.W.Frag} {mg : Str → Option Value} {base : Heap} (T : Hd fa fn K mg) (c__law_power : CalleeK P w K mg base "_law_power" 1 3 m__law_power) {X : Cx} {B : Gr} {W : WX} (h : Bd X W P w K mg base 1 N__law_half (defScope s__law_half)) : QSs X B W (defBody s__law_half) f__law_half := by
  have v0 := h.vr (i := 0) (x := "base") (by rfl) (by decide +kernel)
  have v1 := h.vr (i := 1) (x := "great") (by rfl) (by decide +kernel)
  have g__law_power := h.gl (x := "_law_power") (by decide +kernel)
  have g_int := h.gl (x := "int") (by decide +kernel)
  exact (ss_one (s_ret (q_call (Wd.callee h.wd c__law_power g__law_power (by rfl)) (h.wd.room.mono (by omega)) h.cc.tk (a_cons (q_op opq_mod (QE.qr (q_ct cq_int (h.wd.blt (T.free 48 (by rfl)) g_int) boot_int (by decide) (by rfl) (ar_cons (q_rd v0) ar_nil (by rfl)) (by rfl) (by rfl))) (q_rd v1)) (a_cons (q_ct cq_int (h.wd.blt (T.free 48 (by rfl)) g_int) boot_int (by decide) (by rfl) (ar_cons (QE.qr (q_op opq_div (QE.qr (q_op opq_sub (q_rd v1) (QE.qr q_int))) (QE.qr q_int))) ar_nil (by rfl)) (by rfl) (by rfl)) (a_cons (q_var v1) a_nil (by rfl)) (by rfl)) (by rfl)) (len_cons (len_cons (len_cons len_nil))).len (by rfl) (by rfl))))

theorem sc__law_is_false : FnScope N__law_is_false ["base", "great"] (defScope s__law_is_false) := ⟨rfl, rfl, rfl, by decide +kernel, rfl, by decide +kernel, by decide +kernel⟩
theorem der__law_is_false {P : Program} {w : World} {K : PySem.W.Frag} {mg : Str → Option Value} {base : Heap} (T : Hd fa fn K mg) (c__law_sign : CalleeK P w K mg base "_law_sign" 1 2 m__law_sign) (c__law_half : CalleeK P w K mg base "_law_half" 2 2 m__law_half) {X : Cx} {B : Gr} {W : WX} (h : Bd X W P w K mg base 2 N__law_is_false (defScope s__law_is_false)) : QSs X B W (defBody s__law_is_false) f__law_is_false := by
  have v0 := h.vr (i := 0) (x := "base") (by rfl) (by decide +kernel)
  have v1 := h.vr (i := 1) (x := "great") (by rfl) (by decide +kernel)
  have v2 := h.vr (i := 2) (x := "rest") (by rfl) (by decide +kernel)
  have v3 := h.vr (i := 3) (x := "sign") (by rfl) (by decide +kernel)
  have ll2 := h.ll (i := 2) (x := "rest") (by rfl) (by decide +kernel)
  have ll3 := h.ll (i := 3) (x := "sign") (by rfl) (by decide +kernel)
  have g__law_half := h.gl (x := "_law_half") (by decide +kernel)
  have g__law_sign := h.gl (x := "_law_sign") (by decide +kernel)
  exact (ss_cons (s_par2 h.cc ll2 ll3 (by decide) (a_cons (q_call (Wd.callee h.wd c__law_half g__law_half (by rfl)) (h.wd.room.mono (by omega)) h.cc.tk (a_cons (q_var v0) (a_cons (q_var v1) a_nil (by rfl)) (by rfl)) (len_cons (len_cons len_nil)).len (by rfl) (by rfl)) (a_cons (q_call (Wd.callee h.wd c__law_sign g__law_sign (by rfl)) (h.wd.room.mono (by omega)) h.cc.tk (a_cons (q_var v0) (a_cons (q_var v1) a_nil (by rfl)) (by rfl)) (len_cons (len_cons len_nil)).len (by rfl) (by rfl)) a_nil (by rfl)) (by rfl)) (sw2 h.cc.kd ll2.loc ll3.loc (by decide +kernel) (by rfl) (by rfl) (by rfl) (by rfl)) (by rfl))
 (ss_one (s_ret (q_cmp (opq_ninX (h.wd).hu2) (by with_unfolding_all rfl) (QE.qr (q_tup (a_cons (q_var v2) (a_cons (q_var v3) a_nil (by rfl)) (by rfl)))) (QE.qr (q_tup (a_cons (q_tup (a_cons q_int (a_cons q_int a_nil (by rfl)) (by rfl))) (a_cons (q_tup (a_cons (q_op opq_sub (q_rd v1) (QE.qr q_int)) (a_cons (q_neg q_int) a_nil (by rfl)) (by rfl))) a_nil (by rfl)) (by rfl))))))))

theorem sc__law_shape : FnScope N__law_shape ["cup", "most"] (defScope s__law_shape) := ⟨rfl, rfl, rfl, by decide +kernel, rfl, by decide +kernel, by decide +kernel⟩
theorem der__law_shape {P : Program} {w : World} {K : PySem.W.Frag} {mg : Str → Option Value} {base : Heap} (T : Hd fa fn K mg) (c__law_roll : CalleeK P w K mg base "_law_roll" 1 2 m__law_roll) (c__law_above : CalleeK P w K mg base "_law_above" 1 2 m__law_above) {X : Cx} {B : Gr} {W : WX} (h : Bd X W P w K mg base 1 N__law_shape (defScope s__law_shape)) : QSs X B W (defBody s__law_shape) f__law_shape := by
  have v0 := h.vr (i := 0) (x := "cup") (by rfl) (by decide +kernel)
  have v1 := h.vr (i := 1) (x := "most") (by rfl) (by decide +kernel)
  have v2 := h.vr (i := 2) (x := "power") (by rfl) (by decide +kernel)
  have v3 := h.vr (i := 3) (x := "front") (by rfl) (by decide +kernel)
  have l2 := h.lr (i := 2) (x := "power") (by rfl) (by decide +kernel)
  have l3 := h.lr (i := 3) (x := "front") (by rfl) (by decide +kernel)
  have g__law_above := h.gl (x := "_law_above") (by decide +kernel)
  have g__law_roll := h.gl (x := "_law_roll") (by decide +kernel)
  have g_int := h.gl (x := "int") (by decide +kernel)
  have g_min := h.gl (x := "min") (by decide +kernel)
  exact (ss_cons (s_set l2 (q_op opq_add (QE.qr q_int) (QE.qr (q_call (Wd.callee h.wd c__law_roll g__law_roll (by rfl)) (h.wd.room.mono (by omega)) h.cc.tk (a_cons (q_var v0) (a_cons (q_var v1) a_nil (by rfl)) (by rfl)) (len_cons (len_cons len_nil)).len (by rfl) (by rfl)))) (by rfl))
 (ss_cons (s_set l3 (q_op opq_add (QE.qr q_int) (QE.qr (q_op opq_mul (QE.qr q_int) (QE.qr (q_call (Wd.callee h.wd c__law_roll g__law_roll (by rfl)) (h.wd.room.mono (by omega)) h.cc.tk (a_cons (q_var v0) (a_cons (q_cb (cq_min2 h.cc.calm) (h.wd.blt (T.free 52 (by rfl)) g_min) boot_min (by decide) (by rfl) (ar_cons (QE.qr (q_op opq_pow (QE.qr q_int) (QE.qr q_int))) (ar_cons (QE.qr (q_op opq_sub (QE.qr (q_call (Wd.callee h.wd c__law_above g__law_above (by rfl)) (h.wd.room.mono (by omega)) h.cc.tk (a_cons q_int (a_cons (q_var v2) a_nil (by rfl)) (by rfl)) (len_cons (len_cons len_nil)).len (by rfl) (by rfl))) (QE.qr q_int))) ar_nil (by rfl)) (by rfl)) (by rfl) (by rfl)) a_nil (by rfl)) (by rfl)) (len_cons (len_cons len_nil)).len (by rfl) (by rfl)))))) (by rfl))
 (ss_cons (s_while h.cc (t_cmp opq_ge (by with_unfolding_all rfl) (q_rd v3) (QE.qr (q_op opq_sub (QE.qr (q_call (Wd.callee h.wd c__law_above g__law_above (by rfl)) (h.wd.room.mono (by omega)) h.cc.tk (a_cons q_int (a_cons (q_var v2) a_nil (by rfl)) (by rfl)) (len_cons (len_cons len_nil)).len (by rfl) (by rfl))) (QE.qr q_int))))
  (ss_one (s_set l3 (q_op opq_add (QE.qr (q_op opq_mul (QE.qr (q_ct cq_int (h.wd.blt (T.free 48 (by rfl)) g_int) boot_int (by decide) (by rfl) (ar_cons (QE.qr (q_op opq_div (q_rd v3) (QE.qr q_int))) ar_nil (by rfl)) (by rfl) (by rfl))) (QE.qr q_int))) (QE.qr q_int)) (by rfl))))
 (ss_one (s_ret (q_tup (a_cons (q_var v3) (a_cons (q_var v2) a_nil (by rfl)) (by rfl))))))))

theorem sc__law_right : FnScope N__law_right ["cup", "front", "power", "is_small"] (defScope s__law_right) := ⟨rfl, rfl, rfl, by decide +kernel, rfl, by decide +kernel, by decide +kernel⟩
theorem der__law_right {P : Program} {w : World} {K : PySem.W.Frag} {mg : Str → Option Value} {base : Heap} (T : Hd fa fn K mg) (c__law_above : CalleeK P w K mg base "_law_above" 1 2 m__law_above) (c_proth_paper : CalleeK P w K mg base "proth_paper" 5 2 m_proth_paper) (c_is_shape_prime : CalleeK P w K mg base "is_shape_prime" 5 2 m_is_shape_prime) (c_number_above : CalleeK P w K mg base "number_above" 5 2 m_number_above) (c__law_like : CalleeK P w K mg base "_law_like" 9 2 m__law_like) (c__law_is_prime : CalleeK P w K mg base "_law_is_prime" 1 1 m__law_is_prime) (c_is_prime : CalleeK P w K mg base "is_prime" 5 1 m_is_prime) (c__law_sort : CalleeK P w K mg base "_law_sort" 1 1 m__law_sort) (c__law_half : CalleeK P w K mg base "_law_half" 2 2 m__law_half) (c_false_paper : CalleeK P w K mg base "false_paper" 5 2 m_false_paper) (c__law_is_false : CalleeK P w K mg base "_law_is_false" 3 2 m__law_is_false) (c__law_roll : CalleeK P w K mg base "_law_roll" 1 2 m__law_roll) (c_is_proth_paper : CalleeK P w K mg base "is_proth_paper" 5 3 m_is_proth_paper) {X : Cx} {B : Gr} {W : WX} (h : Bd X W P w K mg base 9 N__law_right (defScope s__law_right)) : QSs X B W (defBody s__law_right) f__law_right := by
  have v0 := h.vr (i := 0) (x := "cup") (by rfl) (by decide +kernel)
  have v1 := h.vr (i := 1) (x := "front") (by rfl) (by decide +kernel)
  have v2 := h.vr (i := 2) (x := "power") (by rfl) (by decide +kernel)
  have v3 := h.vr (i := 3) (x := "is_small") (by rfl) (by decide +kernel)
  have v4 := h.vr (i := 4) (x := "great") (by rfl) (by decide +kernel)
  have v5 := h.vr (i := 5) (x := "told") (by rfl) (by decide +kernel)
  have v6 := h.vr (i := 6) (x := "paper") (by rfl) (by decide +kernel)
  have v7 := h.vr (i := 7) (x := "false") (by rfl) (by decide +kernel)
  have v8 := h.vr (i := 8) (x := "some") (by rfl) (by decide +kernel)
  have v9 := h.vr (i := 9) (x := "value") (by rfl) (by decide +kernel)
  have v10 := h.vr (i := 10) (x := "good") (by rfl) (by decide +kernel)
  have l4 := h.lr (i := 4) (x := "great") (by rfl) (by decide +kernel)
  have l7 := h.lr (i := 7) (x := "false") (by rfl) (by decide +kernel)
  have l8 := h.lr (i := 8) (x := "some") (by rfl) (by decide +kernel)
  have l9 := h.lr (i := 9) (x := "value") (by rfl) (by decide +kernel)
  have l10 := h.lr (i := 10) (x := "good") (by rfl) (by decide +kernel)
  have ll5 := h.ll (i := 5) (x := "told") (by rfl) (by decide +kernel)
  have ll6 := h.ll (i := 6) (x := "paper") (by rfl) (by decide +kernel)
  have g__law_above := h.gl (x := "_law_above") (by decide +kernel)
  have g__law_half := h.gl (x := "_law_half") (by decide +kernel)
  have g__law_is_false := h.gl (x := "_law_is_false") (by decide +kernel)
  have g__law_is_prime := h.gl (x := "_law_is_prime") (by decide +kernel)
  have g__law_like := h.gl (x := "_law_like") (by decide +kernel)
  have g__law_roll := h.gl (x := "_law_roll") (by decide +kernel)
  have g__law_sort := h.gl (x := "_law_sort") (by decide +kernel)
  have g_false_paper := h.gl (x := "false_paper") (by decide +kernel)
  have g_is_prime := h.gl (x := "is_prime") (by decide +kernel)
  have g_is_proth_paper := h.gl (x := "is_proth_paper") (by decide +kernel)
  have g_is_shape_prime := h.gl (x := "is_shape_prime") (by decide +kernel)
  have g_number_above := h.gl (x := "number_above") (by decide +kernel)
  have g_proth_paper := h.gl (x := "proth_paper") (by decide +kernel)
  exact (ss_cons (s_set l4 (q_call (Wd.callee h.wd c__law_above g__law_above (by rfl)) (h.wd.room.mono (by omega)) h.cc.tk (a_cons (q_var v1) (a_cons (q_var v2) a_nil (by rfl)) (by rfl)) (len_cons (len_cons len_nil)).len (by rfl) (by rfl)) (by rfl))
 (ss_cons (s_par2 h.cc ll5 ll6 (by decide) (a_cons (q_call (Wd.callee h.wd c_is_shape_prime g_is_shape_prime (by rfl)) (h.wd.room.mono (by omega)) h.cc.tk (a_cons (q_var v1) (a_cons (q_var v2) a_nil (by rfl)) (by rfl)) (len_cons (len_cons len_nil)).len (by rfl) (by rfl)) (a_cons (q_call (Wd.callee h.wd c_proth_paper g_proth_paper (by rfl)) (h.wd.room.mono (by omega)) h.cc.tk (a_cons (q_var v1) (a_cons (q_var v2) a_nil (by rfl)) (by rfl)) (len_cons (len_cons len_nil)).len (by rfl) (by rfl)) a_nil (by rfl)) (by rfl)) (sw2 h.cc.kd ll5.loc ll6.loc (by decide +kernel) (by rfl) (by rfl) (by rfl) (by rfl)) (by rfl))
 (ss_cons (s_if (t_not (t_val (q_call (Wd.callee h.wd c__law_like g__law_like (by rfl)) (h.wd.room.mono (by omega)) h.cc.tk (a_cons (QF.qe (f_lst (a_cons (q_call (Wd.callee h.wd c_number_above g_number_above (by rfl)) (h.wd.room.mono (by omega)) h.cc.tk (a_cons (q_var v1) (a_cons (q_var v2) a_nil (by rfl)) (by rfl)) (len_cons (len_cons len_nil)).len (by rfl) (by rfl)) (a_cons (q_cmp (opq_eq (h.wd).hu) (by with_unfolding_all rfl) (q_rd v5) (QE.qr (q_cmp opq_isN (by with_unfolding_all rfl) (q_rd v6) (QE.qr q_non)))) a_nil (by rfl)) (by rfl)))) (a_cons (QF.qe (f_lst (a_cons (q_var v4) (a_cons q_bl a_nil (by rfl)) (by rfl)))) a_nil (by rfl)) (by rfl)) (len_cons (len_cons len_nil)).len (by rfl) (by rfl)) (fun _ => rfl)))
  (ss_one (s_ret q_bl))
  ss_nil)
 (ss_cons (s_if (t_w (w_and (t_tru (q_rd v3) (fun _ => rfl)) (w_and1 (t_w (w_or (t_cmp (opq_ne (h.wd).hu) (by with_unfolding_all rfl) (q_rd v5) (QE.qr (q_call (Wd.callee h.wd c__law_is_prime g__law_is_prime (by rfl)) (h.wd.room.mono (by omega)) h.cc.tk (a_cons (q_var v4) a_nil (by rfl)) (len_cons len_nil).len (by rfl) (by rfl)))) (w_or1 (t_cmp (opq_ne (h.wd).hu) (by with_unfolding_all rfl) (QE.qr (q_call (Wd.callee h.wd c_is_prime g_is_prime (by rfl)) (h.wd.room.mono (by omega)) h.cc.tk (a_cons (q_var v4) a_nil (by rfl)) (len_cons len_nil).len (by rfl) (by rfl))) (q_rd v5))))))))
  (ss_one (s_ret q_bl))
  ss_nil)
 (ss_cons (s_if (t_w (w_and (t_cmp opq_isN (by with_unfolding_all rfl) (q_rd v6) (QE.qr q_non)) (w_and1 (t_w (w_or (t_cmp (opq_ne (h.wd).hu) (by with_unfolding_all rfl) (QE.qr (q_call (Wd.callee h.wd c__law_sort g__law_sort (by rfl)) (h.wd.room.mono (by omega)) h.cc.tk (a_cons (q_var v6) a_nil (by rfl)) (len_cons len_nil).len (by rfl) (by rfl))) (QE.qr q_int)) (w_or (t_not (t_chain opq_le opq_lt (QE.qr q_int) (q_rd v6) (q_rd v4) (by with_unfolding_all rfl))) (w_or1 (t_cmp (opq_ne (h.wd).hu) (by with_unfolding_all rfl) (QE.qr (q_call (Wd.callee h.wd c__law_half g__law_half (by rfl)) (h.wd.room.mono (by omega)) h.cc.tk (a_cons (q_var v6) (a_cons (q_var v4) a_nil (by rfl)) (by rfl)) (len_cons (len_cons len_nil)).len (by rfl) (by rfl))) (QE.qr (q_op opq_sub (q_rd v4) (QE.qr q_int)))))))))))
  (ss_one (s_ret q_bl))
  ss_nil)
 (ss_cons (s_set l7 (q_call (Wd.callee h.wd c_false_paper g_false_paper (by rfl)) (h.wd.room.mono (by omega)) h.cc.tk (a_cons (q_var v1) (a_cons (q_var v2) a_nil (by rfl)) (by rfl)) (len_cons (len_cons len_nil)).len (by rfl) (by rfl)) (by rfl))
 (ss_cons (s_if (t_w (w_or (t_cmp (opq_ne (h.wd).hu) (by with_unfolding_all rfl) (QE.qr (q_cmp opq_is (by with_unfolding_all rfl) (q_rd v7) (QE.qr q_non))) (q_rd v5)) (w_or1 (t_w (w_and (t_not (t_tru (q_rd v5) (fun _ => rfl))) (w_and1 (t_w (w_or (t_cmp (opq_ne (h.wd).hu) (by with_unfolding_all rfl) (QE.qr (q_call (Wd.callee h.wd c__law_sort g__law_sort (by rfl)) (h.wd.room.mono (by omega)) h.cc.tk (a_cons (q_var v7) a_nil (by rfl)) (len_cons len_nil).len (by rfl) (by rfl))) (QE.qr q_int)) (w_or (t_not (t_chain opq_le opq_lt (QE.qr q_int) (q_rd v7) (q_rd v4) (by with_unfolding_all rfl))) (w_or1 (t_not (t_val (q_call (Wd.callee h.wd c__law_is_false g__law_is_false (by rfl)) (h.wd.room.mono (by omega)) h.cc.tk (a_cons (q_var v7) (a_cons (q_var v4) a_nil (by rfl)) (by rfl)) (len_cons (len_cons len_nil)).len (by rfl) (by rfl)) (fun _ => rfl)))))))))))))
  (ss_one (s_ret q_bl))
  ss_nil)
 (ss_cons (s_set l8 (q_if (t_cmp opq_isN (by with_unfolding_all rfl) (q_rd v6) (QE.qr q_non)) (q_var v6) q_int) (by rfl))
 (ss_cons (s_for h.cc (i_seq (q_tup (a_cons (q_var v8) (a_cons (q_op opq_add (q_rd v8) (QE.qr q_int)) (a_cons (q_op opq_sub (q_rd v4) (q_rd v8)) (a_cons (q_op opq_add (q_rd v4) (q_rd v8)) (a_cons (q_op opq_sub (q_rd v4) (QE.qr q_int)) (a_cons (q_var v4) (a_cons q_int (a_cons q_int (a_cons (q_neg q_int) (a_cons q_non (a_cons q_bl (a_cons q_str (a_cons (q_tup (a_cons (q_var v8) a_nil (by rfl))) (a_cons (q_op opq_add (QE.qr q_int) (QE.qr (q_call (Wd.callee h.wd c__law_roll g__law_roll (by rfl)) (h.wd.room.mono (by omega)) h.cc.tk (a_cons (q_var v0) (a_cons (q_op opq_pow (QE.qr q_int) (QE.qr q_int)) a_nil (by rfl)) (by rfl)) (len_cons (len_cons len_nil)).len (by rfl) (by rfl)))) a_nil (by rfl)) (by rfl)) (by rfl)) (by rfl)) (by rfl)) (by rfl)) (by rfl)) (by rfl)) (by rfl)) (by rfl)) (by rfl)) (by rfl)) (by rfl)) (by rfl)))) (g_name l9)
  (ss_cons (s_set l10 (q_and (q_cmp (opq_eq (h.wd).hu) (by with_unfolding_all rfl) (QE.qr (q_call (Wd.callee h.wd c__law_sort g__law_sort (by rfl)) (h.wd.room.mono (by omega)) h.cc.tk (a_cons (q_var v9) a_nil (by rfl)) (len_cons len_nil).len (by rfl) (by rfl))) (QE.qr q_int)) (q_and (q_chain opq_le opq_lt (QE.qr q_int) (q_rd v9) (q_rd v4) (by with_unfolding_all rfl)) (q_one (q_cmp (opq_eq (h.wd).hu) (by with_unfolding_all rfl) (QE.qr (q_call (Wd.callee h.wd c__law_half g__law_half (by rfl)) (h.wd.room.mono (by omega)) h.cc.tk (a_cons (q_var v9) (a_cons (q_var v4) a_nil (by rfl)) (by rfl)) (len_cons (len_cons len_nil)).len (by rfl) (by rfl))) (QE.qr (q_op opq_sub (q_rd v4) (QE.qr q_int))))))) (by rfl))
 (ss_one (s_if (t_not (t_val (q_call (Wd.callee h.wd c__law_like g__law_like (by rfl)) (h.wd.room.mono (by omega)) h.cc.tk (a_cons (q_call (Wd.callee h.wd c_is_proth_paper g_is_proth_paper (by rfl)) (h.wd.room.mono (by omega)) h.cc.tk (a_cons (q_var v1) (a_cons (q_var v2) (a_cons (q_var v9) a_nil (by rfl)) (by rfl)) (by rfl)) (len_cons (len_cons (len_cons len_nil))).len (by rfl) (by rfl)) (a_cons (q_var v10) a_nil (by rfl)) (by rfl)) (len_cons (len_cons len_nil)).len (by rfl) (by rfl)) (fun _ => rfl)))
  (ss_one (s_ret q_bl))
  ss_nil))) (fun _ => rfl))
 (ss_one (s_ret q_bl)))))))))))

theorem sc_law : FnScope N_law ["script"] (defScope s_law) := ⟨rfl, rfl, rfl, by decide +kernel, rfl, by decide +kernel, by decide +kernel⟩
theorem der_law {P : Program} {w : World} {K : PySem.W.Frag} {mg : Str → Option Value} {base : Heap} (T : Hd fa fn K mg) (c__law_cup : CalleeK P w K mg base "_law_cup" 1 1 m__law_cup) (c_proth_paper : CalleeK P w K mg base "proth_paper" 5 2 m_proth_paper) (c_is_proth_paper : CalleeK P w K mg base "is_proth_paper" 5 3 m_is_proth_paper) (c_is_shape_prime : CalleeK P w K mg base "is_shape_prime" 5 2 m_is_shape_prime) (c__law_like : CalleeK P w K mg base "_law_like" 9 2 m__law_like) (c__law_shape : CalleeK P w K mg base "_law_shape" 2 2 m__law_shape) (c__law_right : CalleeK P w K mg base "_law_right" 10 4 m__law_right) (c__law_roll : CalleeK P w K mg base "_law_roll" 1 2 m__law_roll) (c__law_above : CalleeK P w K mg base "_law_above" 1 2 m__law_above) (c__law_half : CalleeK P w K mg base "_law_half" 2 2 m__law_half) (c_number_above : CalleeK P w K mg base "number_above" 5 2 m_number_above) (c__law_some : CalleeK P w K mg base "_law_some" 2 2 m__law_some) (c__law_sign : CalleeK P w K mg base "_law_sign" 1 2 m__law_sign) {X : Cx} {B : Gr} {W : WX} (h : Bd X W P w K mg base 10 N_law (defScope s_law)) : QSs X B W (defBody s_law) f_law := by
  have v0 := h.vr (i := 0) (x := "script") (by rfl) (by decide +kernel)
  have v1 := h.vr (i := 1) (x := "cup") (by rfl) (by decide +kernel)
  have v2 := h.vr (i := 2) (x := "told") (by rfl) (by decide +kernel)
  have v3 := h.vr (i := 3) (x := "known") (by rfl) (by decide +kernel)
  have v4 := h.vr (i := 4) (x := "most") (by rfl) (by decide +kernel)
  have v5 := h.vr (i := 5) (x := "front") (by rfl) (by decide +kernel)
  have v6 := h.vr (i := 6) (x := "power") (by rfl) (by decide +kernel)
  have v7 := h.vr (i := 7) (x := "great") (by rfl) (by decide +kernel)
  have v8 := h.vr (i := 8) (x := "rests") (by rfl) (by decide +kernel)
  have v9 := h.vr (i := 9) (x := "root") (by rfl) (by decide +kernel)
  have v10 := h.vr (i := 10) (x := "base") (by rfl) (by decide +kernel)
  have l1 := h.lr (i := 1) (x := "cup") (by rfl) (by decide +kernel)
  have l2 := h.lr (i := 2) (x := "told") (by rfl) (by decide +kernel)
  have l3 := h.lr (i := 3) (x := "known") (by rfl) (by decide +kernel)
  have l4 := h.lr (i := 4) (x := "most") (by rfl) (by decide +kernel)
  have l5 := h.lr (i := 5) (x := "front") (by rfl) (by decide +kernel)
  have l6 := h.lr (i := 6) (x := "power") (by rfl) (by decide +kernel)
  have l7 := h.lr (i := 7) (x := "great") (by rfl) (by decide +kernel)
  have l9 := h.lr (i := 9) (x := "root") (by rfl) (by decide +kernel)
  have l10 := h.lr (i := 10) (x := "base") (by rfl) (by decide +kernel)
  have ll8 := h.ll (i := 8) (x := "rests") (by rfl) (by decide +kernel)
  have n7 : X.N[7]? = some ("great" : Str) := by rw [h.hN]; rfl
  have k7 : X.env.scope.names.lookup ("great" : Str) = some .cell := by rw [h.hsc]; decide +kernel
  have n10 : X.N[10]? = some ("base" : Str) := by rw [h.hN]; rfl
  have n11 : X.N[11]? = some ("rest" : Str) := by rw [h.hN]; rfl
  have g__law_above := h.gl (x := "_law_above") (by decide +kernel)
  have g__law_cup := h.gl (x := "_law_cup") (by decide +kernel)
  have g__law_like := h.gl (x := "_law_like") (by decide +kernel)
  have g__law_right := h.gl (x := "_law_right") (by decide +kernel)
  have g__law_roll := h.gl (x := "_law_roll") (by decide +kernel)
  have g__law_shape := h.gl (x := "_law_shape") (by decide +kernel)
  have g__law_sign := h.gl (x := "_law_sign") (by decide +kernel)
  have g__law_some := h.gl (x := "_law_some") (by decide +kernel)
  have g_is_proth_paper := h.gl (x := "is_proth_paper") (by decide +kernel)
  have g_is_shape_prime := h.gl (x := "is_shape_prime") (by decide +kernel)
  have g_number_above := h.gl (x := "number_above") (by decide +kernel)
  have g_proth_paper := h.gl (x := "proth_paper") (by decide +kernel)
  have g_range := h.gl (x := "range") (by decide +kernel)
  exact (ss_cons (s_set l1 (q_call (Wd.callee h.wd c__law_cup g__law_cup (by rfl)) (h.wd.room.mono (by omega)) h.cc.tk (a_cons (q_var v0) a_nil (by rfl)) (len_cons len_nil).len (by rfl) (by rfl)) (by rfl))
 (ss_cons (s_set l2 (QF.qe (f_lst (a_cons (q_call (Wd.callee h.wd c_is_shape_prime g_is_shape_prime (by rfl)) (h.wd.room.mono (by omega)) h.cc.tk (a_cons q_int (a_cons q_int a_nil (by rfl)) (by rfl)) (len_cons (len_cons len_nil)).len (by rfl) (by rfl)) (a_cons (q_call (Wd.callee h.wd c_is_shape_prime g_is_shape_prime (by rfl)) (h.wd.room.mono (by omega)) h.cc.tk (a_cons q_int (a_cons q_int a_nil (by rfl)) (by rfl)) (len_cons (len_cons len_nil)).len (by rfl) (by rfl)) (a_cons (q_call (Wd.callee h.wd c_is_proth_paper g_is_proth_paper (by rfl)) (h.wd.room.mono (by omega)) h.cc.tk (a_cons q_int (a_cons q_int (a_cons q_int a_nil (by rfl)) (by rfl)) (by rfl)) (len_cons (len_cons (len_cons len_nil))).len (by rfl) (by rfl)) (a_cons (q_call (Wd.callee h.wd c_is_proth_paper g_is_proth_paper (by rfl)) (h.wd.room.mono (by omega)) h.cc.tk (a_cons q_int (a_cons q_int (a_cons q_int a_nil (by rfl)) (by rfl)) (by rfl)) (len_cons (len_cons (len_cons len_nil))).len (by rfl) (by rfl)) (a_cons (q_call (Wd.callee h.wd c_proth_paper g_proth_paper (by rfl)) (h.wd.room.mono (by omega)) h.cc.tk (a_cons q_int (a_cons q_int a_nil (by rfl)) (by rfl)) (len_cons (len_cons len_nil)).len (by rfl) (by rfl)) a_nil (by rfl)) (by rfl)) (by rfl)) (by rfl)) (by rfl)))) (by rfl))
 (ss_cons (s_set l2 (q_op opq_add (q_rd v2) (QE.qr (QF.qe (f_lst (a_cons (q_call (Wd.callee h.wd c_is_proth_paper g_is_proth_paper (by rfl)) (h.wd.room.mono (by omega)) h.cc.tk (a_cons q_int (a_cons q_int (a_cons q_int a_nil (by rfl)) (by rfl)) (by rfl)) (len_cons (len_cons (len_cons len_nil))).len (by rfl) (by rfl)) (a_cons (q_call (Wd.callee h.wd c_proth_paper g_proth_paper (by rfl)) (h.wd.room.mono (by omega)) h.cc.tk (a_cons q_int (a_cons q_int a_nil (by rfl)) (by rfl)) (len_cons (len_cons len_nil)).len (by rfl) (by rfl)) a_nil (by rfl)) (by rfl)))))) (by rfl))
 (ss_cons (s_if (t_not (t_val (q_call (Wd.callee h.wd c__law_like g__law_like (by rfl)) (h.wd.room.mono (by omega)) h.cc.tk (a_cons (q_var v2) (a_cons (QF.qe (f_lst (a_cons q_bl (a_cons q_bl (a_cons q_bl (a_cons q_bl (a_cons q_non (a_cons q_bl (a_cons q_int a_nil (by rfl)) (by rfl)) (by rfl)) (by rfl)) (by rfl)) (by rfl)) (by rfl)))) a_nil (by rfl)) (by rfl)) (len_cons (len_cons len_nil)).len (by rfl) (by rfl)) (fun _ => rfl)))
  (ss_one (s_ret q_bl))
  ss_nil)
 (ss_cons (s_set l3 (QF.qe (f_lst (a_cons (q_tup (a_cons q_int (a_cons q_int (a_cons q_int a_nil (by rfl)) (by rfl)) (by rfl))) (a_cons (q_tup (a_cons q_int (a_cons q_int (a_cons q_int a_nil (by rfl)) (by rfl)) (by rfl))) (a_cons (q_tup (a_cons q_int (a_cons q_int (a_cons q_int a_nil (by rfl)) (by rfl)) (by rfl))) (a_cons (q_tup (a_cons q_int (a_cons q_int (a_cons q_int a_nil (by rfl)) (by rfl)) (by rfl))) (a_cons (q_tup (a_cons q_int (a_cons q_int (a_cons q_int a_nil (by rfl)) (by rfl)) (by rfl))) (a_cons (q_tup (a_cons q_int (a_cons q_int (a_cons q_int a_nil (by rfl)) (by rfl)) (by rfl))) a_nil (by rfl)) (by rfl)) (by rfl)) (by rfl)) (by rfl)) (by rfl)))) (by rfl))
 (ss_cons (s_for h.cc (i_seq (q_tup (a_cons q_int (a_cons q_int (a_cons q_int (a_cons q_int a_nil (by rfl)) (by rfl)) (by rfl)) (by rfl)))) (g_name l4)
  (ss_cons (s_asg (q_call (Wd.callee h.wd c__law_shape g__law_shape (by rfl)) (h.wd.room.mono (by omega)) h.cc.tk (a_cons (q_var v1) (a_cons (q_var v4) a_nil (by rfl)) (by rfl)) (len_cons (len_cons len_nil)).len (by rfl) (by rfl)) (g_tup h.cc.calm (gs_cons (g_name l5) (gs_cons (g_name l6) gs_nil (by rfl)) (by rfl)) (gl_cons (gl_cons gl_nil)).len (by rfl) (by rfl)) (by rfl) (by rfl) (by rfl))
 (ss_one (s_if (t_not (t_val (q_call (Wd.callee h.wd c__law_right g__law_right (by rfl)) (h.wd.room.mono (by omega)) h.cc.tk (a_cons (q_var v1) (a_cons (q_var v5) (a_cons (q_var v6) (a_cons q_bl a_nil (by rfl)) (by rfl)) (by rfl)) (by rfl)) (len_cons (len_cons (len_cons (len_cons len_nil)))).len (by rfl) (by rfl)) (fun _ => rfl)))
  (ss_one (s_ret q_bl))
  ss_nil))) (fun _ => rfl))
 (ss_cons (s_for h.cc (i_seq (q_tup (a_cons q_int (a_cons q_int a_nil (by rfl)) (by rfl)))) (g_name l4)
  (ss_cons (s_asg (q_call (Wd.callee h.wd c__law_shape g__law_shape (by rfl)) (h.wd.room.mono (by omega)) h.cc.tk (a_cons (q_var v1) (a_cons (q_var v4) a_nil (by rfl)) (by rfl)) (len_cons (len_cons len_nil)).len (by rfl) (by rfl)) (g_tup h.cc.calm (gs_cons (g_name l5) (gs_cons (g_name l6) gs_nil (by rfl)) (by rfl)) (gl_cons (gl_cons gl_nil)).len (by rfl) (by rfl)) (by rfl) (by rfl) (by rfl))
 (ss_one (s_if (t_not (t_val (q_call (Wd.callee h.wd c__law_right g__law_right (by rfl)) (h.wd.room.mono (by omega)) h.cc.tk (a_cons (q_var v1) (a_cons (q_var v5) (a_cons (q_var v6) (a_cons q_bl a_nil (by rfl)) (by rfl)) (by rfl)) (by rfl)) (len_cons (len_cons (len_cons (len_cons len_nil)))).len (by rfl) (by rfl)) (fun _ => rfl)))
  (ss_one (s_ret q_bl))
  ss_nil))) (fun _ => rfl))
 (ss_cons (s_set l6 (q_op opq_add (QE.qr q_int) (QE.qr (q_call (Wd.callee h.wd c__law_roll g__law_roll (by rfl)) (h.wd.room.mono (by omega)) h.cc.tk (a_cons (q_var v1) (a_cons q_int a_nil (by rfl)) (by rfl)) (len_cons (len_cons len_nil)).len (by rfl) (by rfl)))) (by rfl))
 (ss_cons (s_for h.cc (i_r3 (h.wd.blt (T.free 53 (by rfl)) g_range) (a_cons q_int (a_cons q_int (a_cons q_int a_nil (by rfl)) (by rfl)) (by rfl)) (by rfl) (by rfl)) (g_name l5)
  (ss_cons (s_set l7 (q_call (Wd.callee h.wd c__law_above g__law_above (by rfl)) (h.wd.room.mono (by omega)) h.cc.tk (a_cons (q_var v5) (a_cons (q_var v6) a_nil (by rfl)) (by rfl)) (len_cons (len_cons len_nil)).len (by rfl) (by rfl)) (by rfl))
 (ss_cons (s_setLc h.cc ll8 (by rfl) (by decide +kernel) (i_seq (q_tup (a_cons q_int (a_cons q_int (a_cons q_int (a_cons q_int (a_cons q_int a_nil (by rfl)) (by rfl)) (by rfl)) (by rfl)) (by rfl)))) (own := [("base", 10)]) (by rw [h.hN, h.hsc]; decide +kernel) (fun s1 H1 C1 cl1 fp1 => (g_name (lr_blk h.cc.nd n10 (by decide +kernel)))) (fun s1 H1 C1 cl1 fp1 => (q_call (Wd.callee (Wd.blk h.wd) c__law_half (gl_blk (by decide +kernel)) (by rfl)) ((Wd.blk h.wd).room.mono (by omega)) takes0 (a_cons (q_var (vr_blk n10 (by decide +kernel) (by rfl) (by rfl))) (a_cons (q_var (vr_blk n7 (by decide +kernel) (by rfl) (by rfl))) a_nil (by rfl)) (by rfl)) (len_cons (len_cons len_nil)).len (by rfl) (by rfl))) (by decide) (fun _ => rfl))
 (ss_cons (s_if (t_w (w_and (t_cmp opq_in (by with_unfolding_all rfl) (QE.qr (q_op opq_sub (q_rd v7) (QE.qr q_int))) (q_rd v8)) (w_and1 (t_cmp opq_isNB (by with_unfolding_all rfl) (QE.qr (q_call (Wd.callee h.wd c_is_shape_prime g_is_shape_prime (by rfl)) (h.wd.room.mono (by omega)) h.cc.tk (a_cons (q_var v5) (a_cons (q_var v6) a_nil (by rfl)) (by rfl)) (len_cons (len_cons len_nil)).len (by rfl) (by rfl))) (QE.qr q_bl)))))
  (ss_one (s_ret q_bl))
  ss_nil)
 (ss_one (s_if (t_w (w_and (t_cmp opq_nin (by with_unfolding_all rfl) (QE.qr (q_op opq_sub (q_rd v7) (QE.qr q_int))) (q_rd v8)) (w_and (t_cmp (opq_ne (h.wd).hu) (by with_unfolding_all rfl) (QE.qr (QF.qe (f_lcT h.cc (i_seq (q_var v8)) (own := [("rest", 11)]) (by rw [h.hN, h.hsc]; decide +kernel) (fun s2 H2 C2 cl2 fp2 => (g_name (lr_blk h.cc.nd n11 (by decide +kernel)))) (fun s2 H2 C2 cl2 fp2 => (t_cmp (opq_ne ((Wd.blk h.wd)).hu) (by with_unfolding_all rfl) (q_rd (vr_blk n11 (by decide +kernel) (by rfl) (by rfl))) (QE.qr q_int))) (fun s2 H2 C2 cl2 fp2 => (q_var (vr_blk n11 (by decide +kernel) (by rfl) (by rfl)))) (by decide) (fun _ => rfl)))) (QE.qr (QF.qe (f_lst a_nil)))) (w_and1 (t_cmp opq_isNB (by with_unfolding_all rfl) (QE.qr (q_call (Wd.callee h.wd c_is_shape_prime g_is_shape_prime (by rfl)) (h.wd.room.mono (by omega)) h.cc.tk (a_cons (q_var v5) (a_cons (q_var v6) a_nil (by rfl)) (by rfl)) (len_cons (len_cons len_nil)).len (by rfl) (by rfl))) (QE.qr q_bl))))))
  (ss_one (s_ret q_bl))
  ss_nil))))) (fun _ => rfl))
 (ss_cons (s_for h.cc (i_seq (q_tup (a_cons (q_tup (a_cons q_int (a_cons q_int (a_cons q_int a_nil (by rfl)) (by rfl)) (by rfl))) (a_cons (q_tup (a_cons q_int (a_cons q_int (a_cons q_int a_nil (by rfl)) (by rfl)) (by rfl))) (a_cons (q_tup (a_cons q_int (a_cons q_int (a_cons q_int a_nil (by rfl)) (by rfl)) (by rfl))) a_nil (by rfl)) (by rfl)) (by rfl)))) (g_tup h.cc.calm (gs_cons (g_name l5) (gs_cons (g_name l6) (gs_cons (g_name l9) gs_nil (by rfl)) (by rfl)) (by rfl)) (gl_cons (gl_cons (gl_cons gl_nil))).len (by rfl) (by rfl))
  (ss_one (s_if (t_not (t_val (q_call (Wd.callee h.wd c__law_like g__law_like (by rfl)) (h.wd.room.mono (by omega)) h.cc.tk (a_cons (QF.qe (f_lst (a_cons (q_call (Wd.callee h.wd c_number_above g_number_above (by rfl)) (h.wd.room.mono (by omega)) h.cc.tk (a_cons (q_var v5) (a_cons (q_var v6) a_nil (by rfl)) (by rfl)) (len_cons (len_cons len_nil)).len (by rfl) (by rfl)) (a_cons (q_call (Wd.callee h.wd c_is_shape_prime g_is_shape_prime (by rfl)) (h.wd.room.mono (by omega)) h.cc.tk (a_cons (q_var v5) (a_cons (q_var v6) a_nil (by rfl)) (by rfl)) (len_cons (len_cons len_nil)).len (by rfl) (by rfl)) (a_cons (q_call (Wd.callee h.wd c_proth_paper g_proth_paper (by rfl)) (h.wd.room.mono (by omega)) h.cc.tk (a_cons (q_var v5) (a_cons (q_var v6) a_nil (by rfl)) (by rfl)) (len_cons (len_cons len_nil)).len (by rfl) (by rfl)) a_nil (by rfl)) (by rfl)) (by rfl)))) (a_cons (QF.qe (f_lst (a_cons (q_op opq_mul (q_rd v9) (q_rd v9)) (a_cons q_bl (a_cons q_non a_nil (by rfl)) (by rfl)) (by rfl)))) a_nil (by rfl)) (by rfl)) (len_cons (len_cons len_nil)).len (by rfl) (by rfl)) (fun _ => rfl)))
  (ss_one (s_ret q_bl))
  ss_nil)) (fun _ => rfl))
 (ss_cons (s_for h.cc (i_seq (q_op opq_add (q_rd v3) (QE.qr (QF.qe (f_lst (a_cons (q_tup (a_cons q_int (a_cons q_int (a_cons q_int a_nil (by rfl)) (by rfl)) (by rfl))) (a_cons (q_tup (a_cons q_int (a_cons q_int (a_cons q_int a_nil (by rfl)) (by rfl)) (by rfl))) a_nil (by rfl)) (by rfl))))))) (g_tup h.cc.calm (gs_cons (g_name l5) (gs_cons (g_name l6) (gs_cons (g_name l7) gs_nil (by rfl)) (by rfl)) (by rfl)) (gl_cons (gl_cons (gl_cons gl_nil))).len (by rfl) (by rfl))
  (ss_one (s_if (t_not (t_val (q_call (Wd.callee h.wd c__law_like g__law_like (by rfl)) (h.wd.room.mono (by omega)) h.cc.tk (a_cons (QF.qe (f_lst (a_cons (q_call (Wd.callee h.wd c_number_above g_number_above (by rfl)) (h.wd.room.mono (by omega)) h.cc.tk (a_cons (q_var v5) (a_cons (q_var v6) a_nil (by rfl)) (by rfl)) (len_cons (len_cons len_nil)).len (by rfl) (by rfl)) (a_cons (q_call (Wd.callee h.wd c_is_shape_prime g_is_shape_prime (by rfl)) (h.wd.room.mono (by omega)) h.cc.tk (a_cons (q_var v5) (a_cons (q_var v6) a_nil (by rfl)) (by rfl)) (len_cons (len_cons len_nil)).len (by rfl) (by rfl)) a_nil (by rfl)) (by rfl)))) (a_cons (QF.qe (f_lst (a_cons (q_var v7) (a_cons q_bl a_nil (by rfl)) (by rfl)))) a_nil (by rfl)) (by rfl)) (len_cons (len_cons len_nil)).len (by rfl) (by rfl)) (fun _ => rfl)))
  (ss_one (s_ret q_bl))
  ss_nil)) (fun _ => rfl))
 (ss_cons (s_asg (q_call (Wd.callee h.wd c__law_some g__law_some (by rfl)) (h.wd.room.mono (by omega)) h.cc.tk (a_cons (q_var v1) (a_cons (QF.qe (f_lst (a_cons (q_tup (a_cons q_int (a_cons q_int a_nil (by rfl)) (by rfl))) (a_cons (q_tup (a_cons q_int (a_cons q_int a_nil (by rfl)) (by rfl))) (a_cons (q_tup (a_cons q_int (a_cons q_int a_nil (by rfl)) (by rfl))) (a_cons (q_tup (a_cons q_int (a_cons q_int a_nil (by rfl)) (by rfl))) a_nil (by rfl)) (by rfl)) (by rfl)) (by rfl)))) a_nil (by rfl)) (by rfl)) (len_cons (len_cons len_nil)).len (by rfl) (by rfl)) (g_tup h.cc.calm (gs_cons (g_name l5) (gs_cons (g_name l6) gs_nil (by rfl)) (by rfl)) (gl_cons (gl_cons gl_nil)).len (by rfl) (by rfl)) (by rfl) (by rfl) (by rfl))
 (ss_cons (s_set l7 (q_call (Wd.callee h.wd c__law_above g__law_above (by rfl)) (h.wd.room.mono (by omega)) h.cc.tk (a_cons (q_var v5) (a_cons (q_var v6) a_nil (by rfl)) (by rfl)) (len_cons (len_cons len_nil)).len (by rfl) (by rfl)) (by rfl))
 (ss_cons (s_set l10 (q_op opq_add (QE.qr q_int) (QE.qr (q_call (Wd.callee h.wd c__law_roll g__law_roll (by rfl)) (h.wd.room.mono (by omega)) h.cc.tk (a_cons (q_var v1) (a_cons (q_op opq_sub (q_rd v7) (QE.qr q_int)) a_nil (by rfl)) (by rfl)) (len_cons (len_cons len_nil)).len (by rfl) (by rfl)))) (by rfl))
 (ss_one (s_ret (q_call (Wd.callee h.wd c__law_like g__law_like (by rfl)) (h.wd.room.mono (by omega)) h.cc.tk (a_cons (q_call (Wd.callee h.wd c_is_proth_paper g_is_proth_paper (by rfl)) (h.wd.room.mono (by omega)) h.cc.tk (a_cons (q_var v5) (a_cons (q_var v6) (a_cons (q_var v10) a_nil (by rfl)) (by rfl)) (by rfl)) (len_cons (len_cons (len_cons len_nil))).len (by rfl) (by rfl)) (a_cons (q_cmp (opq_eq (h.wd).hu) (by with_unfolding_all rfl) (QE.qr (q_call (Wd.callee h.wd c__law_sign g__law_sign (by rfl)) (h.wd.room.mono (by omega)) h.cc.tk (a_cons (q_var v10) (a_cons (q_var v7) a_nil (by rfl)) (by rfl)) (len_cons (len_cons len_nil)).len (by rfl) (by rfl))) (QE.qr (q_neg q_int))) a_nil (by rfl)) (by rfl)) (len_cons (len_cons len_nil)).len (by rfl) (by rfl))))))))))))))))))

theorem ok_is_integer {P : Program} {w : World} {K : PySem.W.Frag} {mg : Str → Option Value} {base : Heap} (T : Hd fa fn K mg) : CalleeK P w K mg base "is_integer" 1 1 m_is_integer :=
  T.callee 0 0 (by rfl) (by rfl) sc_is_integer rfl (fun _ _ _ _ _ _ us hl => match us, hl with | [_], _ => rfl) (fun X B W h => der_is_integer T h) (fun ds S _ _ => ⟨fuel, rfl⟩)

theorem ok_is_whole {P : Program} {w : World} {K : PySem.W.Frag} {mg : Str → Option Value} {base : Heap} (T : Hd fa fn K mg) : CalleeK P w K mg base "is_whole" 2 3 m_is_whole :=
  T.callee 1 1 (by rfl) (by rfl) sc_is_whole rfl (fun _ _ _ _ _ _ us hl => match us, hl with | [_, _, _], _ => rfl) (fun X B W h => der_is_whole T (ok_is_integer T) h) (fun ds S _ _ => ⟨fuel, rfl⟩)

theorem ok_need_whole {P : Program} {w : World} {K : PySem.W.Frag} {mg : Str → Option Value} {base : Heap} (T : Hd fa fn K mg) : CalleeK P w K mg base "need_whole" 3 3 m_need_whole :=
  T.callee 2 2 (by rfl) (by rfl) sc_need_whole rfl (fun _ _ _ _ _ _ us hl => match us, hl with | [_, _, _], _ => rfl) (fun X B W h => der_need_whole T (ok_is_whole T) h) (fun ds S _ _ => ⟨fuel, rfl⟩)

theorem ok_need_number {P : Program} {w : World} {K : PySem.W.Frag} {mg : Str → Option Value} {base : Heap} (T : Hd fa fn K mg) : CalleeK P w K mg base "need_number" 4 1 m_need_number :=
  T.callee 3 3 (by rfl) (by rfl) sc_need_number rfl (fun _ _ _ _ _ _ us hl => match us, hl with | [_], _ => rfl) (fun X B W h => der_need_number T (ok_need_whole T) h) (fun ds S _ _ => ⟨fuel, rfl⟩)

theorem ok_least_factor {P : Program} {w : World} {K : PySem.W.Frag} {mg : Str → Option Value} {base : Heap} (T : Hd fa fn K mg) : CalleeK P w K mg base "least_factor" 1 1 m_least_factor :=
  T.callee 4 4 (by rfl) (by rfl) sc_least_factor rfl (fun _ _ _ _ _ _ us hl => match us, hl with | [_], _ => rfl) (fun X B W h => der_least_factor T h) (fun ds S _ _ => ⟨fuel, rfl⟩)

theorem ok_is_prime_in {P : Program} {w : World} {K : PySem.W.Frag} {mg : Str → Option Value} {base : Heap} (T : Hd fa fn K mg) : CalleeK P w K mg base "is_prime_in" 2 1 m_is_prime_in :=
  T.callee 5 5 (by rfl) (by rfl) sc_is_prime_in rfl (fun _ _ _ _ _ _ us hl => match us, hl with | [_], _ => rfl) (fun X B W h => der_is_prime_in T (ok_least_factor T) h) (fun ds S _ _ => ⟨fuel, rfl⟩)

theorem ok_power_in {P : Program} {w : World} {K : PySem.W.Frag} {mg : Str → Option Value} {base : Heap} (T : Hd fa fn K mg) : CalleeK P w K mg base "power_in" 1 3 m_power_in :=
  T.callee 6 6 (by rfl) (by rfl) sc_power_in rfl (fun _ _ _ _ _ _ us hl => match us, hl with | [_, _, _], _ => rfl) (fun X B W h => der_power_in T h) (fun ds S _ _ => ⟨fuel, rfl⟩)

theorem ok_is_prime {P : Program} {w : World} {K : PySem.W.Frag} {mg : Str → Option Value} {base : Heap} (T : Hd fa fn K mg) : CalleeK P w K mg base "is_prime" 5 1 m_is_prime :=
  T.callee 7 7 (by rfl) (by rfl) sc_is_prime rfl (fun _ _ _ _ _ _ us hl => match us, hl with | [_], _ => rfl) (fun X B W h => der_is_prime T (ok_need_number T) (ok_is_prime_in T) h) (fun ds S _ _ => ⟨fuel, rfl⟩)

theorem ok_sign_in {P : Program} {w : World} {K : PySem.W.Frag} {mg : Str → Option Value} {base : Heap} (T : Hd fa fn K mg) : CalleeK P w K mg base "sign_in" 1 2 m_sign_in :=
  T.callee 8 8 (by rfl) (by rfl) sc_sign_in rfl (fun _ _ _ _ _ _ us hl => match us, hl with | [_, _], _ => rfl) (fun X B W h => der_sign_in T h) (fun ds S _ _ => ⟨fuel, rfl⟩)

theorem ok_above_in {P : Program} {w : World} {K : PySem.W.Frag} {mg : Str → Option Value} {base : Heap} (T : Hd fa fn K mg) : CalleeK P w K mg base "above_in" 1 2 m_above_in :=
  T.callee 9 9 (by rfl) (by rfl) sc_above_in rfl (fun _ _ _ _ _ _ us hl => match us, hl with | [_, _], _ => rfl) (fun X B W h => der_above_in T h) (fun ds S _ _ => ⟨fuel, rfl⟩)

theorem ok_fits_two_shape {P : Program} {w : World} {K : PySem.W.Frag} {mg : Str → Option Value} {base : Heap} (T : Hd fa fn K mg) : CalleeK P w K mg base "fits_two_shape" 3 2 m_fits_two_shape :=
  T.callee 10 10 (by rfl) (by rfl) sc_fits_two_shape rfl (fun _ _ _ _ _ _ us hl => match us, hl with | [_, _], _ => rfl) (fun X B W h => der_fits_two_shape T (ok_is_whole T) (ok_above_in T) h) (fun ds S _ _ => ⟨fuel, rfl⟩)

theorem ok_need_two_shape {P : Program} {w : World} {K : PySem.W.Frag} {mg : Str → Option Value} {base : Heap} (T : Hd fa fn K mg) : CalleeK P w K mg base "need_two_shape" 4 2 m_need_two_shape :=
  T.callee 11 11 (by rfl) (by rfl) sc_need_two_shape rfl (fun _ _ _ _ _ _ us hl => match us, hl with | [_, _], _ => rfl) (fun X B W h => der_need_two_shape T (ok_fits_two_shape T) h) (fun ds S _ _ => ⟨fuel, rfl⟩)

theorem ok_half_in {P : Program} {w : World} {K : PySem.W.Frag} {mg : Str → Option Value} {base : Heap} (T : Hd fa fn K mg) : CalleeK P w K mg base "half_in" 2 2 m_half_in :=
  T.callee 12 12 (by rfl) (by rfl) sc_half_in rfl (fun _ _ _ _ _ _ us hl => match us, hl with | [_, _], _ => rfl) (fun X B W h => der_half_in T (ok_power_in T) h) (fun ds S _ _ => ⟨fuel, rfl⟩)

theorem ok_is_square_number {P : Program} {w : World} {K : PySem.W.Frag} {mg : Str → Option Value} {base : Heap} (T : Hd fa fn K mg) : CalleeK P w K mg base "is_square_number" 1 1 m_is_square_number :=
  T.callee 13 13 (by rfl) (by rfl) sc_is_square_number rfl (fun _ _ _ _ _ _ us hl => match us, hl with | [_], _ => rfl) (fun X B W h => der_is_square_number T h) (fun ds S _ _ => ⟨fuel, rfl⟩)

theorem ok_paper_base {P : Program} {w : World} {K : PySem.W.Frag} {mg : Str → Option Value} {base : Heap} (T : Hd fa fn K mg) : CalleeK P w K mg base "paper_base" 2 1 m_paper_base :=
  T.callee 14 14 (by rfl) (by rfl) sc_paper_base rfl (fun _ _ _ _ _ _ us hl => match us, hl with | [_], _ => rfl) (fun X B W h => der_paper_base T (ok_sign_in T) h) (fun ds S _ _ => ⟨fuel, rfl⟩)

theorem ok_is_prime_above {P : Program} {w : World} {K : PySem.W.Frag} {mg : Str → Option Value} {base : Heap} (T : Hd fa fn K mg) : CalleeK P w K mg base "is_prime_above" 3 1 m_is_prime_above :=
  T.callee 15 15 (by rfl) (by rfl) sc_is_prime_above rfl (fun _ _ _ _ _ _ us hl => match us, hl with | [_], _ => rfl) (fun X B W h => der_is_prime_above T (ok_is_square_number T) (ok_paper_base T) (ok_half_in T) h) (fun ds S _ _ => ⟨fuel, rfl⟩)

theorem ok_is_false_in {P : Program} {w : World} {K : PySem.W.Frag} {mg : Str → Option Value} {base : Heap} (T : Hd fa fn K mg) : CalleeK P w K mg base "is_false_in" 3 2 m_is_false_in :=
  T.callee 16 16 (by rfl) (by rfl) sc_is_false_in rfl (fun _ _ _ _ _ _ us hl => match us, hl with | [_, _], _ => rfl) (fun X B W h => der_is_false_in T (ok_sign_in T) (ok_half_in T) h) (fun ds S _ _ => ⟨fuel, rfl⟩)

theorem ok_is_base_to {P : Program} {w : World} {K : PySem.W.Frag} {mg : Str → Option Value} {base : Heap} (T : Hd fa fn K mg) : CalleeK P w K mg base "is_base_to" 2 2 m_is_base_to :=
  T.callee 17 17 (by rfl) (by rfl) sc_is_base_to rfl (fun _ _ _ _ _ _ us hl => match us, hl with | [_, _], _ => rfl) (fun X B W h => der_is_base_to T (ok_is_integer T) h) (fun ds S _ _ => ⟨fuel, rfl⟩)

theorem ok_number_above {P : Program} {w : World} {K : PySem.W.Frag} {mg : Str → Option Value} {base : Heap} (T : Hd fa fn K mg) : CalleeK P w K mg base "number_above" 5 2 m_number_above :=
  T.callee 18 18 (by rfl) (by rfl) sc_number_above rfl (fun _ _ _ _ _ _ us hl => match us, hl with | [_, _], _ => rfl) (fun X B W h => der_number_above T (ok_need_two_shape T) (ok_above_in T) h) (fun ds S _ _ => ⟨fuel, rfl⟩)

theorem ok_is_shape_prime {P : Program} {w : World} {K : PySem.W.Frag} {mg : Str → Option Value} {base : Heap} (T : Hd fa fn K mg) : CalleeK P w K mg base "is_shape_prime" 5 2 m_is_shape_prime :=
  T.callee 19 19 (by rfl) (by rfl) sc_is_shape_prime rfl (fun _ _ _ _ _ _ us hl => match us, hl with | [_, _], _ => rfl) (fun X B W h => der_is_shape_prime T (ok_need_two_shape T) (ok_above_in T) (ok_is_prime_above T) h) (fun ds S _ _ => ⟨fuel, rfl⟩)

theorem ok_proth_paper {P : Program} {w : World} {K : PySem.W.Frag} {mg : Str → Option Value} {base : Heap} (T : Hd fa fn K mg) : CalleeK P w K mg base "proth_paper" 5 2 m_proth_paper :=
  T.callee 20 20 (by rfl) (by rfl) sc_proth_paper rfl (fun _ _ _ _ _ _ us hl => match us, hl with | [_, _], _ => rfl) (fun X B W h => der_proth_paper T (ok_need_two_shape T) (ok_above_in T) (ok_is_prime_above T) (ok_paper_base T) h) (fun ds S _ _ => ⟨fuel, rfl⟩)

theorem ok_is_proth_paper {P : Program} {w : World} {K : PySem.W.Frag} {mg : Str → Option Value} {base : Heap} (T : Hd fa fn K mg) : CalleeK P w K mg base "is_proth_paper" 5 3 m_is_proth_paper :=
  T.callee 21 21 (by rfl) (by rfl) sc_is_proth_paper rfl (fun _ _ _ _ _ _ us hl => match us, hl with | [_, _, _], _ => rfl) (fun X B W h => der_is_proth_paper T (ok_need_two_shape T) (ok_above_in T) (ok_is_base_to T) (ok_half_in T) h) (fun ds S _ _ => ⟨fuel, rfl⟩)

theorem ok_false_paper {P : Program} {w : World} {K : PySem.W.Frag} {mg : Str → Option Value} {base : Heap} (T : Hd fa fn K mg) : CalleeK P w K mg base "false_paper" 5 2 m_false_paper :=
  T.callee 22 22 (by rfl) (by rfl) sc_false_paper rfl (fun _ _ _ _ _ _ us hl => match us, hl with | [_, _], _ => rfl) (fun X B W h => der_false_paper T (ok_need_two_shape T) (ok_above_in T) (ok_is_prime_above T) (ok_is_false_in T) h) (fun ds S _ _ => ⟨fuel, rfl⟩)

theorem ok__law_cup {P : Program} {w : World} {K : PySem.W.Frag} {mg : Str → Option Value} {base : Heap} (T : Hd fa fn K mg) : CalleeK P w K mg base "_law_cup" 1 1 m__law_cup :=
  T.callee 23 23 (by rfl) (by rfl) sc__law_cup rfl (fun _ _ _ _ _ _ us hl => match us, hl with | [_], _ => rfl) (fun X B W h => der__law_cup T h) (fun ds S _ _ => ⟨fuel, rfl⟩)

theorem ok__law_roll {P : Program} {w : World} {K : PySem.W.Frag} {mg : Str → Option Value} {base : Heap} (T : Hd fa fn K mg) : CalleeK P w K mg base "_law_roll" 1 2 m__law_roll :=
  T.callee 24 24 (by rfl) (by rfl) sc__law_roll rfl (fun _ _ _ _ _ _ us hl => match us, hl with | [_, _], _ => rfl) (fun X B W h => der__law_roll T h) (fun ds S _ _ => ⟨fuel, rfl⟩)

theorem ok__law_some {P : Program} {w : World} {K : PySem.W.Frag} {mg : Str → Option Value} {base : Heap} (T : Hd fa fn K mg) : CalleeK P w K mg base "_law_some" 2 2 m__law_some :=
  T.callee 25 25 (by rfl) (by rfl) sc__law_some rfl (fun _ _ _ _ _ _ us hl => match us, hl with | [_, _], _ => rfl) (fun X B W h => der__law_some T (ok__law_roll T) h) (fun ds S _ _ => ⟨fuel, rfl⟩)

theorem ok__law_sort {P : Program} {w : World} {K : PySem.W.Frag} {mg : Str → Option Value} {base : Heap} (T : Hd fa fn K mg) : CalleeK P w K mg base "_law_sort" 1 1 m__law_sort :=
  T.callee 26 26 (by rfl) (by rfl) sc__law_sort rfl (fun _ _ _ _ _ _ us hl => match us, hl with | [_], _ => rfl) (fun X B W h => der__law_sort T h) (fun ds S _ _ => ⟨fuel, rfl⟩)

theorem okr__law_like {P : Program} {w : World} {K : PySem.W.Frag} {mg : Str → Option Value} {base : Heap} (T : Hd fa fn K mg) : ∀ k : Nat, CalleeK P w K mg base "_law_like" (1 + k) 2 (mk__law_like k)
  | 0 => T.callee0 27 27 (by rfl) (by rfl) sc__law_like rfl (fun _ _ _ _ _ _ us hl => match us, hl with | [_, _], _ => rfl)
  | k + 1 => T.callee 27 27 (by rfl) (by rfl) sc__law_like rfl (fun _ _ _ _ _ _ us hl => match us, hl with | [_, _], _ => rfl) (fun X B W h => der__law_like T (ok__law_sort T) (Nat.le_add_right _ _) (okr__law_like T k) h) (fun ds S _ _ => ⟨fuel, rfl⟩)
theorem ok__law_like {P : Program} {w : World} {K : PySem.W.Frag} {mg : Str → Option Value} {base : Heap} (T : Hd fa fn K mg) : CalleeK P w K mg base "_law_like" 9 2 m__law_like := okr__law_like T 8

theorem ok__law_is_prime {P : Program} {w : World} {K : PySem.W.Frag} {mg : Str → Option Value} {base : Heap} (T : Hd fa fn K mg) : CalleeK P w K mg base "_law_is_prime" 1 1 m__law_is_prime :=
  T.callee 28 28 (by rfl) (by rfl) sc__law_is_prime rfl (fun _ _ _ _ _ _ us hl => match us, hl with | [_], _ => rfl) (fun X B W h => der__law_is_prime T h) (fun ds S _ _ => ⟨fuel, rfl⟩)

theorem ok__law_power {P : Program} {w : World} {K : PySem.W.Frag} {mg : Str → Option Value} {base : Heap} (T : Hd fa fn K mg) : CalleeK P w K mg base "_law_power" 1 3 m__law_power :=
  T.callee 29 29 (by rfl) (by rfl) sc__law_power rfl (fun _ _ _ _ _ _ us hl => match us, hl with | [_, _, _], _ => rfl) (fun X B W h => der__law_power T h) (fun ds S _ _ => ⟨fuel, rfl⟩)

theorem ok__law_above {P : Program} {w : World} {K : PySem.W.Frag} {mg : Str → Option Value} {base : Heap} (T : Hd fa fn K mg) : CalleeK P w K mg base "_law_above" 1 2 m__law_above :=
  T.callee 30 30 (by rfl) (by rfl) sc__law_above rfl (fun _ _ _ _ _ _ us hl => match us, hl with | [_, _], _ => rfl) (fun X B W h => der__law_above T h) (fun ds S _ _ => ⟨fuel, rfl⟩)

theorem ok__law_sign {P : Program} {w : World} {K : PySem.W.Frag} {mg : Str → Option Value} {base : Heap} (T : Hd fa fn K mg) : CalleeK P w K mg base "_law_sign" 1 2 m__law_sign :=
  T.callee 31 31 (by rfl) (by rfl) sc__law_sign rfl (fun _ _ _ _ _ _ us hl => match us, hl with | [_, _], _ => rfl) (fun X B W h => der__law_sign T h) (fun ds S _ _ => ⟨fuel, rfl⟩)

theorem ok__law_half {P : Program} {w : World} {K : PySem.W.Frag} {mg : Str → Option Value} {base : Heap} (T : Hd fa fn K mg) : CalleeK P w K mg base "_law_half" 2 2 m__law_half :=
  T.callee 32 32 (by rfl) (by rfl) sc__law_half rfl (fun _ _ _ _ _ _ us hl => match us, hl with | [_, _], _ => rfl) (fun X B W h => der__law_half T (ok__law_power T) h) (fun ds S _ _ => ⟨fuel, rfl⟩)

theorem ok__law_is_false {P : Program} {w : World} {K : PySem.W.Frag} {mg : Str → Option Value} {base : Heap} (T : Hd fa fn K mg) : CalleeK P w K mg base "_law_is_false" 3 2 m__law_is_false :=
  T.callee 33 33 (by rfl) (by rfl) sc__law_is_false rfl (fun _ _ _ _ _ _ us hl => match us, hl with | [_, _], _ => rfl) (fun X B W h => der__law_is_false T (ok__law_sign T) (ok__law_half T) h) (fun ds S _ _ => ⟨fuel, rfl⟩)

theorem ok__law_shape {P : Program} {w : World} {K : PySem.W.Frag} {mg : Str → Option Value} {base : Heap} (T : Hd fa fn K mg) : CalleeK P w K mg base "_law_shape" 2 2 m__law_shape :=
  T.callee 34 34 (by rfl) (by rfl) sc__law_shape rfl (fun _ _ _ _ _ _ us hl => match us, hl with | [_, _], _ => rfl) (fun X B W h => der__law_shape T (ok__law_roll T) (ok__law_above T) h) (fun ds S _ _ => ⟨fuel, rfl⟩)

theorem ok__law_right {P : Program} {w : World} {K : PySem.W.Frag} {mg : Str → Option Value} {base : Heap} (T : Hd fa fn K mg) : CalleeK P w K mg base "_law_right" 10 4 m__law_right :=
  T.callee 35 35 (by rfl) (by rfl) sc__law_right rfl (fun _ _ _ _ _ _ us hl => match us, hl with | [_, _, _, _], _ => rfl) (fun X B W h => der__law_right T (ok__law_above T) (ok_proth_paper T) (ok_is_shape_prime T) (ok_number_above T) (ok__law_like T) (ok__law_is_prime T) (ok_is_prime T) (ok__law_sort T) (ok__law_half T) (ok_false_paper T) (ok__law_is_false T) (ok__law_roll T) (ok_is_proth_paper T) h) (fun ds S _ _ => ⟨fuel, rfl⟩)

end LW

end

section
set_option autoImplicit true
namespace LW
open PySem PySem.Spec PyProof.Rows L2 DL
def loose : List PySem.Str := ([PySem.Str.ofString "PrimeError", PySem.Str.ofString "InvalidNumber", PySem.Str.ofString "InvalidShape", PySem.Str.ofString "MOST", PySem.Str.ofString "GREAT", PySem.Str.ofString "is_integer", PySem.Str.ofString "is_whole", PySem.Str.ofString "need_whole", PySem.Str.ofString "need_number", PySem.Str.ofString "least_factor", PySem.Str.ofString "is_prime_in", PySem.Str.ofString "power_in", PySem.Str.ofString "is_prime", PySem.Str.ofString "sign_in", PySem.Str.ofString "MOST_POWER", PySem.Str.ofString "above_in", PySem.Str.ofString "fits_two_shape", PySem.Str.ofString "need_two_shape", PySem.Str.ofString "half_in", PySem.Str.ofString "is_square_number", PySem.Str.ofString "paper_base", PySem.Str.ofString "is_prime_above", PySem.Str.ofString "is_false_in", PySem.Str.ofString "is_base_to", PySem.Str.ofString "number_above", PySem.Str.ofString "is_shape_prime", PySem.Str.ofString "proth_paper", PySem.Str.ofString "is_proth_paper", PySem.Str.ofString "false_paper", PySem.Str.ofString "_law_cup", PySem.Str.ofString "_law_roll", PySem.Str.ofString "_law_some", PySem.Str.ofString "_law_sort", PySem.Str.ofString "_law_like", PySem.Str.ofString "_law_is_prime"] : List PySem.Str) ++ ([PySem.Str.ofString "_law_power", PySem.Str.ofString "_law_above", PySem.Str.ofString "_law_sign", PySem.Str.ofString "_law_half", PySem.Str.ofString "_law_is_false", PySem.Str.ofString "_law_shape", PySem.Str.ofString "_law_right"] : List PySem.Str)
abbrev RR : PySem.W.OpenRow := PySem.W.OpenLaw.row PySem.Challenge.rw_primessure_k76_whole_proth_papers
abbrev hk : PySem.W.Hook := He.hookD 94 fa fn
def ob (s : PySem.W.SharedT) : He.AlD := He.obsDG 94 fa fn (HandSHeadRun.getT s)
theorem ob_eq (s : PySem.W.SharedT) : ob s = hk.obs s.abs := He.obsDG_eq (HandSHeadRun.getT_eq s)
theorem run (w : World) : HandSHeadRun.RunEq RR (PySem.W.view RR.prog [47]) hk ob 20000 loose w := by
  intro os
  kernel_rfl
end LW

end

open PySem PySem.W PySem.Calls PyProof.Rows
set_option maxRecDepth 100000 in
set_option maxHeartbeats 0 in
theorem PySem.Challenge.cw_primessure_k76_whole_proth_papers_holds : PySem.Challenge.rw_primessure_k76_whole_proth_papers.Holds := by
  w_on; o_law
  refine HandSHeadRun.head_any (r := OpenLaw.row PySem.Challenge.rw_primessure_k76_whole_proth_papers) (q := view (OpenLaw.row PySem.Challenge.rw_primessure_k76_whole_proth_papers).prog [47]) (H := LW.hk) (ob := LW.ob) (M := 20000) (loose := LW.loose) (d := HandSHeadRun.topDef (OpenLaw.row PySem.Challenge.rw_primessure_k76_whole_proth_papers).prog 47) (kwd := []) LW.ob_eq
    (by kernel_rfl) (fun s => by kernel_rfl) LW.run (by kernel_rfl) (by kernel_rfl) (by kernel_rfl) (by rfl) (by first | assumption | decide +kernel) (by decide +kernel) ⟨rfl, rfl, rfl, rfl, rfl, by decide +kernel⟩ ?hw ?hc
  case hw => w_witness2
  case hc =>
    refine L2.walk_ofE (l := PySem.Challenge.rw_primessure_k76_whole_proth_papers) (n := 63) (k := 11) (x := "script") rfl (by decide) (by kernel_rfl) ⟨rfl, by decide, by decide⟩ ?F DL.cx_no
    intro w mg fa h Y G hmg0
    obtain ⟨K, KX, c⟩ := Y
    have hmg : mg ("law" : PySem.Str) = some (.ref fa) := by
      have e : (HandSHeadRun.topDef (OpenLaw.row PySem.Challenge.rw_primessure_k76_whole_proth_papers).prog 47).name = ("law" : PySem.Str) := by kernel_rfl
      rw [← e]
      exact hmg0
    exact DL.law_end (P := (PySem.Challenge.rw_primessure_k76_whole_proth_papers).prog) (m := LW.m_law) ⟨⟨h, KX, G⟩, c⟩ KX hmg 36 36 rfl rfl LW.sc_law (fun _ _ _ _ _ _ us hl => match us, hl with | [_], _ => rfl)
      (fun base X B W hh => LW.der_law ⟨⟨h, KX, G⟩, c⟩ (LW.ok__law_cup ⟨⟨h, KX, G⟩, c⟩) (LW.ok_proth_paper ⟨⟨h, KX, G⟩, c⟩) (LW.ok_is_proth_paper ⟨⟨h, KX, G⟩, c⟩) (LW.ok_is_shape_prime ⟨⟨h, KX, G⟩, c⟩) (LW.ok__law_like ⟨⟨h, KX, G⟩, c⟩) (LW.ok__law_shape ⟨⟨h, KX, G⟩, c⟩) (LW.ok__law_right ⟨⟨h, KX, G⟩, c⟩) (LW.ok__law_roll ⟨⟨h, KX, G⟩, c⟩) (LW.ok__law_above ⟨⟨h, KX, G⟩, c⟩) (LW.ok__law_half ⟨⟨h, KX, G⟩, c⟩) (LW.ok_number_above ⟨⟨h, KX, G⟩, c⟩) (LW.ok__law_some ⟨⟨h, KX, G⟩, c⟩) (LW.ok__law_sign ⟨⟨h, KX, G⟩, c⟩) hh) (fun ds S _ _ => ⟨DL.fuel, rfl⟩) LW.law_true
