import PyProof.Rows.All
import Wide.All
import OpenK.AllK
import Wide.FinOn
import HandS.ForMost
import HandS.ForExc
import HandS.Wide
import HandS.Flow
import HandS.IsInst
import HandS.Style
import HandS.HeadHook2
import HandS.ExcCtx
import HandS.Lambda
import HandS.HeadHook4
import HandS.SortInts
import HandS.Zip
import HandS.CallLocal
import HandS.Deep
import HandS.TupAny
import HandS.Strs
import HandS.HeadEnd
import HandS.Iter
import HandS.SetFor
import HandS.WordsDict
import HandS.Dict
import PyProof.Rows.SetFrom
import HandS.TupMul
import HandS.Hot
import HandS.HotCalls
import KE.GoesEnum
import KE.GoesMore
import KE.GoesComp
import PyProof.RulesMatch
import KE.KExcIs
import HandS.Text
import HandS.TryOnly
import KE.KLam
import PyProof.DefCall
import HandS.HeadWalk
import KE.KStateDown
import Lean
import PySem.Challenge.RW_primessure_k79_errors_and_great_shapes
import HandS.Head0
import HandS.Head1
import HandS.Head2
import HandS.HeadHook1
set_option Elab.async false
set_option linter.all false
set_option maxRecDepth 100000
set_option maxHeartbeats 0
section
set_option autoImplicit true
/-! DL: values as data; expressions and statements as functions of data. -/
namespace DL
open PySem PySem.Spec PyProof.Rows L2

/-- a value as data -/
inductive D where
  | non | bl (b : Bool) | int (i : Int) | str (s : Str)
  | tup (l : List D) | lst (l : List D) | dct (l : List (Key × D))
  | ref (x : Str) | hd (n : Nat) | scr (l : List Int) | ty (n : String)

section
variable (K : PySem.W.Frag) (Hf : Hp) (ρ : List Addr)
mutual
def Dt : D → V → Prop
  | .non, v => v = .non
  | .bl b, v => v = .bl b
  | .int i, v => v = .int i
  | .str s, v => v = .str s
  | .ref x, v => v = .ref (He.ga K x)
  | .ty n, v => v = .ty n
  | .hd n, v => ∃ a, ρ[n]? = some a ∧ v = .ref a
  | .scr l, v => ∃ a, v = .ref a ∧ SqL K Hf a (l.map V.int)
  | .tup l, v => ∃ a vs, v = .ref a ∧ SqT K Hf a vs ∧ Dts l vs
  | .lst l, v => ∃ a vs, v = .ref a ∧ Hf a = some (.lst vs) ∧ Dts l vs
  | .dct l, v => ∃ a o kvs, v = .ref a ∧ Hf a = some (.frz o (.dK kvs)) ∧ Dks l kvs
def Dts : List D → List V → Prop
  | [], vs => vs = []
  | d :: l, vs => ∃ v r, vs = v :: r ∧ Dt d v ∧ Dts l r
def Dks : List (Key × D) → List (Key × V) → Prop
  | [], vs => vs = []
  | (k, d) :: l, vs => ∃ v r, vs = (k, v) :: r ∧ Dt d v ∧ Dks l r
end
end

/-- the frozen part grows -/
def Ext (Hf Hf' : Hp) : Prop := ∀ a o, Hf a = some o → Hf' a = some o
def Pre (ρ ρ' : List Addr) : Prop := ∀ (n : Nat) (a : Addr), ρ[n]? = some a → ρ'[n]? = some a
theorem Ext.refl (H : Hp) : Ext H H := fun _ _ h => h
theorem Ext.trans {a b c : Hp} (h : Ext a b) (g : Ext b c) : Ext a c := fun x o e => g x o (h x o e)
theorem Pre.refl (r : List Addr) : Pre r r := fun _ _ h => h
theorem Pre.trans {a b c : List Addr} (h : Pre a b) (g : Pre b c) : Pre a c := fun x o e => g x o (h x o e)
theorem Ext.sqT {K : PySem.W.Frag} {H H' : Hp} {a : Addr} {xs : List V} (e : Ext H H') (h : SqT K H a xs) : SqT K H' a xs := by
  rcases h with (h | ⟨o, h⟩) | h
  · exact .inl (.inl (e _ _ h))
  · exact .inl (.inr ⟨o, e _ _ h⟩)
  · exact .inr h
theorem Ext.sqL {K : PySem.W.Frag} {H H' : Hp} {a : Addr} {xs : List V} (e : Ext H H') (h : SqL K H a xs) : SqL K H' a xs := by
  rcases h with (h | ⟨o, h⟩) | h
  · exact .inl (.inl (e _ _ h))
  · exact .inl (.inr ⟨o, e _ _ h⟩)
  · exact .inr h
section
variable {K : PySem.W.Frag} {Hf Hf' : Hp} {ρ ρ' : List Addr}
mutual
theorem Dt.mono (e : Ext Hf Hf') (p : Pre ρ ρ') : ∀ (d : D) (v : V), Dt K Hf ρ d v → Dt K Hf' ρ' d v
  | .non, v, h => by simpa [Dt] using h
  | .bl b, v, h => by simpa [Dt] using h
  | .int i, v, h => by simpa [Dt] using h
  | .str s, v, h => by simpa [Dt] using h
  | .ref a, v, h => by simpa [Dt] using h
  | .ty a, v, h => by simpa [Dt] using h
  | .hd n, v, h => by
    simp only [Dt] at h ⊢
    obtain ⟨a, h1, h2⟩ := h
    exact ⟨a, p _ _ h1, h2⟩
  | .scr l, v, h => by
    simp only [Dt] at h ⊢
    obtain ⟨a, h1, h2⟩ := h
    exact ⟨a, h1, e.sqL h2⟩
  | .tup l, v, h => by
    simp only [Dt] at h ⊢
    obtain ⟨a, vs, h1, h2, h3⟩ := h
    exact ⟨a, vs, h1, e.sqT h2, Dts.mono e p l vs h3⟩
  | .lst l, v, h => by
    simp only [Dt] at h ⊢
    obtain ⟨a, vs, h1, h2, h3⟩ := h
    exact ⟨a, vs, h1, e _ _ h2, Dts.mono e p l vs h3⟩
  | .dct l, v, h => by
    simp only [Dt] at h ⊢
    obtain ⟨a, o, vs, h1, h2, h3⟩ := h
    exact ⟨a, o, vs, h1, e _ _ h2, Dks.mono e p l vs h3⟩
theorem Dts.mono (e : Ext Hf Hf') (p : Pre ρ ρ') : ∀ (l : List D) (vs : List V), Dts K Hf ρ l vs → Dts K Hf' ρ' l vs
  | [], vs, h => by simpa [Dts] using h
  | d :: l, vs, h => by
    simp only [Dts] at h ⊢
    obtain ⟨v, r, h1, h2, h3⟩ := h
    exact ⟨v, r, h1, Dt.mono e p d v h2, Dts.mono e p l r h3⟩
theorem Dks.mono (e : Ext Hf Hf') (p : Pre ρ ρ') : ∀ (l : List (Key × D)) (vs : List (Key × V)), Dks K Hf ρ l vs → Dks K Hf' ρ' l vs
  | [], vs, h => by simpa [Dks] using h
  | (k, d) :: l, vs, h => by
    simp only [Dks] at h ⊢
    obtain ⟨v, r, h1, h2, h3⟩ := h
    exact ⟨v, r, h1, Dt.mono e p d v h2, Dks.mono e p l r h3⟩
end
end
end DL

end

section
set_option autoImplicit false
set_option autoImplicit false
namespace DL
open PySem PySem.Spec PyProof.Rows L2

/-- a mutable thing that several hold: a list, an instance of a class -/
inductive Cell where
  | lst (l : List D)
  | ins (C : Str) (fs : List (Str × D))
  | tbl (x q : Str)
abbrev Store := List Cell

/-- a table of code objects, all of the name q -/
def TabF (Hf : Hp) (q : Str) (ps : Array Value) : Prop := TriplesOk ps.toList ∧ ∀ (pos : Pos) (cv : Value), codeAmong pos ps.toList = some cv → ∃ c, cv = .ref c ∧ Hf c = some (LamX.CodeO c q)
theorem TabF.mono {Hf Hf' : Hp} {q : Str} {ps : Array Value} (t : TabF Hf q ps) (e : Ext Hf Hf') : TabF Hf' q ps := ⟨t.1, fun pos cv h => by
  obtain ⟨c, h1, h2⟩ := t.2 pos cv h
  exact ⟨c, h1, e _ _ h2⟩⟩
section
variable (K : PySem.W.Frag) (Hf : Hp) (ρ : List Addr)
def Dfs : List (Str × D) → List (Str × V) → Prop
  | [], vs => vs = []
  | (k, d) :: l, vs => ∃ v r, vs = (k, v) :: r ∧ Dt K Hf ρ d v ∧ Dfs l r
def CellOk (H : Hp) (a : Addr) : Cell → Prop
  | .lst l => ∃ vs, H a = some (.lst vs) ∧ Dts K Hf ρ l vs
  | .ins C fs => ∃ dx gs, H a = some (.ins (He.ga K C) dx gs) ∧ Dfs K Hf ρ fs gs
  | .tbl x q => a = He.tabOf K (He.codeOf K (x, none)) ∧ ∃ ps, H a = some (.tbl ps) ∧ TabF Hf q ps
end
section
variable {K : PySem.W.Frag} {Hf Hf' : Hp} {ρ ρ' : List Addr}
theorem Dfs.mono (e : Ext Hf Hf') (p : Pre ρ ρ') : ∀ (l : List (Str × D)) (vs : List (Str × V)), Dfs K Hf ρ l vs → Dfs K Hf' ρ' l vs
  | [], vs, h => by simpa [Dfs] using h
  | (k, d) :: l, vs, h => by
    simp only [Dfs] at h ⊢
    obtain ⟨v, r, h1, h2, h3⟩ := h
    exact ⟨v, r, h1, Dt.mono e p d v h2, Dfs.mono e p l r h3⟩
end

/-- the heap bears the frozen part and the store -/
structure HR (K : PySem.W.Frag) (H Hf : Hp) (ρ : List Addr) (S : Store) : Prop where
  sub : Ext Hf H
  len : ρ.length = S.length
  nd : ∀ (i j : Nat) (a : Addr), ρ[i]? = some a → ρ[j]? = some a → i = j
  hd : ∀ (n : Nat) (a : Addr), ρ[n]? = some a → Hf a = none
  cell : ∀ (n : Nat) (a : Addr) (c : Cell), ρ[n]? = some a → S[n]? = some c → CellOk K Hf ρ H a c

/-- what a piece of a run may change: the store's cells, and new things -/
structure Tr (H Hf : Hp) (ρ : List Addr) (H' Hf' : Hp) (ρ' : List Addr) : Prop where
  hf : Ext Hf Hf'
  pre : Pre ρ ρ'
  keep : ∀ a o, H a = some o → a ∉ ρ → H' a = some o
  fresh : ∀ a, Hf' a ≠ none → Hf a ≠ none ∨ H a = none
  newh : ∀ a ∈ ρ', a ∈ ρ ∨ H a = none
  alive : ∀ a, H a ≠ none → H' a ≠ none
theorem mem_of_get {ρ : List Addr} {n : Nat} {a : Addr} (h : ρ[n]? = some a) : a ∈ ρ := List.mem_of_getElem? h
theorem Pre.mem {ρ ρ' : List Addr} (p : Pre ρ ρ') {a : Addr} (h : a ∈ ρ) : a ∈ ρ' := by
  obtain ⟨n, e⟩ := List.mem_iff_getElem?.mp h
  exact mem_of_get (p n a e)
theorem Tr.refl (H Hf : Hp) (ρ : List Addr) : Tr H Hf ρ H Hf ρ :=
  ⟨Ext.refl _, Pre.refl _, fun _ _ h _ => h, fun _ h => .inl h, fun _ h => .inl h, fun _ h => h⟩
theorem Tr.trans {H Hf H1 Hf1 H2 Hf2 : Hp} {ρ ρ1 ρ2 : List Addr} (a : Tr H Hf ρ H1 Hf1 ρ1) (b : Tr H1 Hf1 ρ1 H2 Hf2 ρ2) : Tr H Hf ρ H2 Hf2 ρ2 where
  hf := a.hf.trans b.hf
  pre := a.pre.trans b.pre
  keep := fun x o h n => b.keep x o (a.keep x o h n) fun z => by
    rcases a.newh x z with z | z
    · exact n z
    · rw [h] at z; cases z
  fresh := fun x h => by
    rcases b.fresh x h with z | z
    · exact a.fresh x z
    · refine .inr ?_
      cases e : H x with
      | none => rfl
      | some o => exact absurd z (a.alive x (by rw [e]; simp))
  newh := fun x h => by
    rcases b.newh x h with z | z
    · exact a.newh x z
    · refine .inr ?_
      cases e : H x with
      | none => rfl
      | some o => exact absurd z (a.alive x (by rw [e]; simp))
  alive := fun x h => b.alive x (a.alive x h)
/-- a new thing, frozen at once -/
theorem Tr.new {H Hf : Hp} {ρ : List Addr} {p : Addr} {o : HO} (hp : H p = none) (hs : Ext Hf H) : Tr H Hf ρ (upd H p o) (upd Hf p o) ρ where
  hf := fun a u h => by
    have : a ≠ p := fun z => by subst z; rw [hs _ _ h] at hp; cases hp
    rw [upd_ne this]; exact h
  pre := Pre.refl _
  keep := fun a u h _ => by rw [upd_ne (ne_of_none h hp)]; exact h
  fresh := fun a h => by
    by_cases z : a = p
    · subst z; exact .inr hp
    · rw [upd_ne z] at h; exact .inl h
  newh := fun a h => .inl h
  alive := fun a h => by
    by_cases z : a = p
    · subst z; rw [upd_same]; simp
    · rw [upd_ne z]; exact h
/-- a new thing, one's own -/
theorem Tr.own {H Hf : Hp} {ρ : List Addr} {p : Addr} {o : HO} (hp : H p = none) : Tr H Hf ρ (upd H p o) Hf ρ where
  hf := Ext.refl _
  pre := Pre.refl _
  keep := fun a u h _ => by rw [upd_ne (ne_of_none h hp)]; exact h
  fresh := fun a h => .inl h
  newh := fun a h => .inl h
  alive := fun a h => by
    by_cases z : a = p
    · subst z; rw [upd_same]; simp
    · rw [upd_ne z]; exact h
theorem HR.new {K : PySem.W.Frag} {H Hf : Hp} {ρ : List Addr} {S : Store} {p : Addr} {o : HO} (h : HR K H Hf ρ S) (hp : H p = none) (hr : p ∉ ρ) : HR K (upd H p o) (upd Hf p o) ρ S := by
  have t := Tr.new (ρ := ρ) (o := o) hp h.sub
  refine ⟨fun a u e => ?_, h.len, h.nd, fun n a e => ?_, fun n a c e1 e2 => ?_⟩
  · by_cases z : a = p
    · subst z; rw [upd_same] at e ⊢; exact e
    · rw [upd_ne z] at e ⊢; exact h.sub a u e
  · have : a ≠ p := fun z => hr (z ▸ mem_of_get e)
    rw [upd_ne this]; exact h.hd n a e
  · have q := h.cell n a c e1 e2
    have : a ≠ p := fun z => hr (z ▸ mem_of_get e1)
    cases c with
    | lst l =>
      obtain ⟨vs, x, y⟩ := q
      exact ⟨vs, by rw [upd_ne this]; exact x, y.mono t.hf (Pre.refl _)⟩
    | ins C fs =>
      obtain ⟨dx, gs, x, y⟩ := q
      exact ⟨dx, gs, by rw [upd_ne this]; exact x, Dfs.mono t.hf (Pre.refl _) _ _ y⟩
    | tbl x' q' =>
      obtain ⟨ea, ps, x, y⟩ := q
      exact ⟨ea, ps, by rw [upd_ne this]; exact x, y.mono t.hf⟩
theorem HR.own {K : PySem.W.Frag} {H Hf : Hp} {ρ : List Addr} {S : Store} {p : Addr} {o : HO} (h : HR K H Hf ρ S) (hf : Hf p = none) (hr : p ∉ ρ) : HR K (upd H p o) Hf ρ S := by
  refine ⟨fun a u e => ?_, h.len, h.nd, h.hd, fun n a c e1 e2 => ?_⟩
  · by_cases z : a = p
    · subst z; rw [hf] at e; cases e
    · rw [upd_ne z]; exact h.sub a u e
  · have q := h.cell n a c e1 e2
    have : a ≠ p := fun z => hr (z ▸ mem_of_get e1)
    cases c with
    | lst l =>
      obtain ⟨vs, x, y⟩ := q
      exact ⟨vs, by rw [upd_ne this]; exact x, y⟩
    | ins C fs =>
      obtain ⟨dx, gs, x, y⟩ := q
      exact ⟨dx, gs, by rw [upd_ne this]; exact x, y⟩
    | tbl x' q' =>
      obtain ⟨ea, ps, x, y⟩ := q
      exact ⟨ea, ps, by rw [upd_ne this]; exact x, y⟩
/-- what is one's own is frozen -/
theorem HR.freeze {K : PySem.W.Frag} {H Hf : Hp} {ρ : List Addr} {S : Store} {p : Addr} {o : HO} (h : HR K H Hf ρ S) (hf : Hf p = none) (hp : H p = some o) (hr : p ∉ ρ) : HR K H (upd Hf p o) ρ S := by
  have ex : Ext Hf (upd Hf p o) := fun a u e => by
    have : a ≠ p := fun z => by subst z; rw [hf] at e; cases e
    rw [upd_ne this]; exact e
  refine ⟨fun a u e => ?_, h.len, h.nd, fun n a e => ?_, fun n a c e1 e2 => ?_⟩
  · by_cases z : a = p
    · subst z; rw [upd_same] at e; cases e; exact hp
    · rw [upd_ne z] at e; exact h.sub a u e
  · have : a ≠ p := fun z => hr (z ▸ mem_of_get e)
    rw [upd_ne this]; exact h.hd n a e
  · have q := h.cell n a c e1 e2
    cases c with
    | lst l =>
      obtain ⟨vs, x, y⟩ := q
      exact ⟨vs, x, y.mono ex (Pre.refl _)⟩
    | ins C fs =>
      obtain ⟨dx, gs, x, y⟩ := q
      exact ⟨dx, gs, x, Dfs.mono ex (Pre.refl _) _ _ y⟩
    | tbl x' q' =>
      obtain ⟨ea, ps, x, y⟩ := q
      exact ⟨ea, ps, x, y.mono ex⟩
theorem HR.there {K : PySem.W.Frag} {H Hf : Hp} {ρ : List Addr} {S : Store} (h : HR K H Hf ρ S) {a : Addr} (ha : a ∈ ρ) : H a ≠ none := by
  obtain ⟨n, e⟩ := List.mem_iff_getElem?.mp ha
  have hn : n < S.length := by rw [← h.len]; exact (List.getElem?_eq_some_iff.mp e).1
  have q := h.cell n a S[n] e (List.getElem?_eq_getElem hn)
  cases hc : S[n] with
  | lst l => rw [hc] at q; obtain ⟨vs, x, _⟩ := q; rw [x]; simp
  | ins C fs => rw [hc] at q; obtain ⟨dx, gs, x, _⟩ := q; rw [x]; simp
  | tbl x' q' => rw [hc] at q; obtain ⟨_, ps, x, _⟩ := q; rw [x]; simp
theorem HR.notin {K : PySem.W.Frag} {H Hf : Hp} {ρ : List Addr} {S : Store} (h : HR K H Hf ρ S) {a : Addr} (ha : H a = none) : a ∉ ρ := fun z => h.there z ha
theorem HR.hnone {K : PySem.W.Frag} {H Hf : Hp} {ρ : List Addr} {S : Store} (h : HR K H Hf ρ S) {a : Addr} (ha : H a = none) : Hf a = none := by
  cases e : Hf a with
  | none => rfl
  | some o => rw [h.sub _ _ e] at ha; cases ha

/-! ### results -/
/-- an error: the class, and what its one attribute holds -/
structure Exc where
  cls : Str
  att : Option (Str × D)
inductive Res (α : Type) where
  | ok (a : α) (S : Store)
  | exc (x : Exc) (S : Store)
  | stk
def Res.bind {α β : Type} (r : Res α) (k : α → Store → Res β) : Res β := match r with
  | .ok a S => k a S
  | .exc x S => .exc x S
  | .stk => .stk

/-- a name's value: shared, or one's own -/
inductive Sl where
  | fz (d : D)
  | own (d : D)
abbrev Env := List (Option Sl)
inductive SRes where
  | nx (E : Env) (S : Store)
  | rt (d : D) (S : Store)
  | bk (E : Env) (S : Store)
  | ct (E : Env) (S : Store)
  | ex (x : Exc) (E : Env) (S : Store)
  | stk
abbrev FE := Nat → Env → Store → Res D
abbrev FT := Nat → Env → Store → Res Bool
abbrev FA := Nat → Env → Store → Res (List D)
abbrev FS := Nat → Env → Store → SRes
/-- what a def makes of its arguments -/
abbrev MF := List D → Store → Res D

section
variable (K : PySem.W.Frag)
/-- how an error lies in the heap -/
def ExcAt (Hf : Hp) (ρ : List Addr) (H : Hp) (x : Exc) (c : Value) (d : Option Addr) : Prop :=
  c = .ref (He.ga K x.cls) ∧ match x.att with
    | none => d = none
    | some (n, v) => ∃ (a : Addr) (u : V), d = some a ∧ Hf a = some (.xd [(n, u)]) ∧ Dt K Hf ρ v u
/-- one's own thing at a -/
def OwnAt (H Hf : Hp) (ρ : List Addr) (a : Addr) : D → Prop
  | .lst l => ∃ vs, H a = some (.lst vs) ∧ Dts K Hf ρ l vs
  | .dct l => ∃ vs, H a = some (.dK vs) ∧ Dks K Hf ρ l vs
  | _ => False
def SlOk (H0 : Hp) (H Hf : Hp) (ρ : List Addr) (v : Option (Option V)) : Sl → Prop
  | .fz d => ∃ u, v = some (some u) ∧ Dt K Hf ρ d u
  | .own d => ∃ a, v = some (some (.ref a)) ∧ H0 a = none ∧ Hf a = none ∧ a ∉ ρ ∧ OwnAt K H Hf ρ a d
end
/-- the ground of a def's run: its context, the heap at its entry, what is wanted of an error -/
structure Gr where
  H0 : Hp
  Hf0 : Hp
  ρ0 : List Addr
structure Rel (K : PySem.W.Frag) (B : Gr) (E : Env) (S : Store) (σ : L2.St) (H Hf : Hp) (ρ : List Addr) : Prop where
  hr : HR K H Hf ρ S
  tr : Tr B.H0 B.Hf0 B.ρ0 H Hf ρ
  len : E.length = σ.length
  sl : ∀ (i : Nat) (s : Sl), E[i]? = some (some s) → SlOk K B.H0 H Hf ρ σ[i]? s
  dis : ∀ (i j : Nat) (a : Addr) (d e : D), E[i]? = some (some (.own d)) → E[j]? = some (some (.own e)) → σ[i]? = some (some (.ref a)) → σ[j]? = some (some (.ref a)) → i = j
theorem OwnAt.mono {K : PySem.W.Frag} {H Hf H' Hf' : Hp} {ρ ρ' : List Addr} {a : Addr} {d : D} (x : OwnAt K H Hf ρ a d) (hn : a ∉ ρ) (t : Tr H Hf ρ H' Hf' ρ') : OwnAt K H' Hf' ρ' a d := by
  cases d with
  | lst l =>
    obtain ⟨vs, h1, h2⟩ := x
    exact ⟨vs, t.keep _ _ h1 hn, Dts.mono t.hf t.pre _ _ h2⟩
  | dct l =>
    obtain ⟨vs, h1, h2⟩ := x
    exact ⟨vs, t.keep _ _ h1 hn, Dks.mono t.hf t.pre _ _ h2⟩
  | _ => exact x.elim
theorem OwnAt.there {K : PySem.W.Frag} {H Hf : Hp} {ρ : List Addr} {a : Addr} {d : D} (x : OwnAt K H Hf ρ a d) : ∃ o, H a = some o := by
  cases d with
  | lst l => obtain ⟨vs, h1, h2⟩ := x; exact ⟨_, h1⟩
  | dct l => obtain ⟨vs, h1, h2⟩ := x; exact ⟨_, h1⟩
  | _ => exact x.elim
theorem SlOk.step {K : PySem.W.Frag} {H0 H Hf H' Hf' : Hp} {ρ ρ' : List Addr} {v : Option (Option V)} {s : Sl} (x : SlOk K H0 H Hf ρ v s) (t : Tr H Hf ρ H' Hf' ρ') : SlOk K H0 H' Hf' ρ' v s := by
  cases s with
  | fz d =>
    obtain ⟨u, h1, h2⟩ := x
    exact ⟨u, h1, h2.mono t.hf t.pre⟩
  | own d =>
    obtain ⟨a, h1, h2, h3, h4, h5⟩ := x
    obtain ⟨o, ho⟩ := h5.there
    refine ⟨a, h1, h2, ?_, fun z => ?_, h5.mono h4 t⟩
    · cases e : Hf' a with
      | none => rfl
      | some u =>
        rcases t.fresh a (by rw [e]; simp) with z | z
        · exact absurd h3 z
        · rw [ho] at z; cases z
    · rcases t.newh a z with z | z
      · exact h4 z
      · rw [ho] at z; cases z
theorem Rel.step {K : PySem.W.Frag} {B : Gr} {E : Env} {S S' : Store} {σ : L2.St} {H Hf H' Hf' : Hp} {ρ ρ' : List Addr} (x : Rel K B E S σ H Hf ρ) (h : HR K H' Hf' ρ' S') (t : Tr H Hf ρ H' Hf' ρ') : Rel K B E S' σ H' Hf' ρ' :=
  ⟨h, x.tr.trans t, x.len, fun i s e => (x.sl i s e).step t, x.dis⟩
end DL

end

section
set_option autoImplicit false
set_option autoImplicit false
namespace DL
open PySem PySem.Spec PyProof.Rows L2

/-! ### what is wanted behind -/
section
variable (K : PySem.W.Frag) (W : WX)
def PostX (σ : L2.St) (H Hf : Hp) (ρ : List Addr) (x : Exc) (S' : Store) : Prop :=
  ∀ c od H' Hf' ρ', HR K H' Hf' ρ' S' → Tr H Hf ρ H' Hf' ρ' → ExcAt K Hf' ρ' H' x c od → W c od σ H'
/-- a value, shared -/
def PostE (σ : L2.St) (H Hf : Hp) (ρ : List Addr) (Q : VK) : Res D → Prop
  | .ok d S' => ∀ v H' Hf' ρ', HR K H' Hf' ρ' S' → Tr H Hf ρ H' Hf' ρ' → Dt K Hf' ρ' d v → Q v H'
  | .exc x S' => PostX K W σ H Hf ρ x S'
  | .stk => False
/-- a value that is read at once: it may be one's own -/
def Dw (H Hf : Hp) (ρ : List Addr) : D → V → Prop
  | .lst l, v => ∃ a vs, v = .ref a ∧ a ∉ ρ ∧ H a = some (.lst vs) ∧ Dts K Hf ρ l vs
  | .dct l, v => ∃ a vs, v = .ref a ∧ a ∉ ρ ∧ Rd H a (.dK vs) ∧ Dks K Hf ρ l vs
  | d, v => Dt K Hf ρ d v
def Dws (H Hf : Hp) (ρ : List Addr) : List D → List V → Prop
  | [], vs => vs = []
  | d :: l, vs => ∃ v r, vs = v :: r ∧ Dw K H Hf ρ d v ∧ Dws H Hf ρ l r
def PostR (σ : L2.St) (H Hf : Hp) (ρ : List Addr) (Q : VK) : Res D → Prop
  | .ok d S' => ∀ v H' Hf' ρ', HR K H' Hf' ρ' S' → Tr H Hf ρ H' Hf' ρ' → Dw K H' Hf' ρ' d v → Q v H'
  | .exc x S' => PostX K W σ H Hf ρ x S'
  | .stk => False
/-- a new list or dict, one's own -/
def PostF (σ : L2.St) (H Hf : Hp) (ρ : List Addr) (Q : VK) : Res D → Prop
  | .ok d S' => ∀ p H' Hf' ρ', HR K H' Hf' ρ' S' → Tr H Hf ρ H' Hf' ρ' → H p = none → Hf' p = none → p ∉ ρ' → OwnAt K H' Hf' ρ' p d → Q (.ref p) H'
  | .exc x S' => PostX K W σ H Hf ρ x S'
  | .stk => False
def PostA (σ : L2.St) (H Hf : Hp) (ρ : List Addr) (Q : List V → Hp → Prop) : Res (List D) → Prop
  | .ok d S' => ∀ v H' Hf' ρ', HR K H' Hf' ρ' S' → Tr H Hf ρ H' Hf' ρ' → Dts K Hf' ρ' d v → Q v H'
  | .exc x S' => PostX K W σ H Hf ρ x S'
  | .stk => False
def PostAr (σ : L2.St) (H Hf : Hp) (ρ : List Addr) (Q : List V → Hp → Prop) : Res (List D) → Prop
  | .ok d S' => ∀ v H' Hf' ρ', HR K H' Hf' ρ' S' → Tr H Hf ρ H' Hf' ρ' → Dws K H' Hf' ρ' d v → Q v H'
  | .exc x S' => PostX K W σ H Hf ρ x S'
  | .stk => False
def PostT (σ : L2.St) (H Hf : Hp) (ρ : List Addr) (Q : Bool → Hp → Prop) : Res Bool → Prop
  | .ok b S' => ∀ H' Hf' ρ', HR K H' Hf' ρ' S' → Tr H Hf ρ H' Hf' ρ' → Q b H'
  | .exc x S' => PostX K W σ H Hf ρ x S'
  | .stk => False
def PostS (B : Gr) (Hf : Hp) (ρ : List Addr) (Q : Ends) : SRes → Prop
  | .nx E' S' => ∀ σ' H' Hf' ρ', Rel K B E' S' σ' H' Hf' ρ' → Ext Hf Hf' → Pre ρ ρ' → Q.nx σ' H'
  | .bk E' S' => ∀ σ' H' Hf' ρ', Rel K B E' S' σ' H' Hf' ρ' → Ext Hf Hf' → Pre ρ ρ' → Q.bk σ' H'
  | .ct E' S' => ∀ σ' H' Hf' ρ', Rel K B E' S' σ' H' Hf' ρ' → Ext Hf Hf' → Pre ρ ρ' → Q.ct σ' H'
  | .rt d S' => ∀ v H' Hf' ρ', HR K H' Hf' ρ' S' → Tr B.H0 B.Hf0 B.ρ0 H' Hf' ρ' → Dt K Hf' ρ' d v → Q.rt v H'
  | .ex x E' S' => ∀ c od σ' H' Hf' ρ', Rel K B E' S' σ' H' Hf' ρ' → Ext Hf Hf' → Pre ρ ρ' → ExcAt K Hf' ρ' H' x c od → W c od σ' H'
  | .stk => False
end
section
variable (X : Cx) (B : Gr) (W : WX)
def QE (e : Expr) (f : FE) : Prop := ∃ t, PE X e t ∧ ∀ n E S σ H Hf ρ Q, Rel X.K B E S σ H Hf ρ → PostE X.K W σ H Hf ρ Q (f n E S) → t σ H Q
def QR (e : Expr) (f : FE) : Prop := ∃ t, PE X e t ∧ ∀ n E S σ H Hf ρ Q, Rel X.K B E S σ H Hf ρ → PostR X.K W σ H Hf ρ Q (f n E S) → t σ H Q
def QF (e : Expr) (f : FE) : Prop := ∃ t, PE X e t ∧ ∀ n E S σ H Hf ρ Q, Rel X.K B E S σ H Hf ρ → PostF X.K W σ H Hf ρ Q (f n E S) → t σ H Q
def QA (es : List Expr) (f : FA) : Prop := ∃ t, PA X es t ∧ ∀ n E S σ H Hf ρ Q, Rel X.K B E S σ H Hf ρ → PostA X.K W σ H Hf ρ Q (f n E S) → t σ H Q
def QAr (es : List Expr) (f : FA) : Prop := ∃ t, PA X es t ∧ ∀ n E S σ H Hf ρ Q, Rel X.K B E S σ H Hf ρ → PostAr X.K W σ H Hf ρ Q (f n E S) → t σ H Q
def QT (e : Expr) (f : FT) : Prop := ∃ t, PT X e t ∧ ∀ n E S σ H Hf ρ Q, Rel X.K B E S σ H Hf ρ → PostT X.K W σ H Hf ρ Q (f n E S) → t σ H Q
def QW (e : Expr) (f : FT) : Prop := ∃ t, PW X e t ∧ ∀ n E S σ H Hf ρ Q, Rel X.K B E S σ H Hf ρ → PostT X.K W σ H Hf ρ Q (f n E S) → t σ H Q
def QS (st : Stmt) (f : FS) : Prop := ∃ t, PS X st t ∧ ∀ n E S σ H Hf ρ Q, Rel X.K B E S σ H Hf ρ → PostS X.K W B Hf ρ Q (f n E S) → t Q σ H
def QSs (st : List Stmt) (f : FS) : Prop := ∃ t, PSs X st t ∧ ∀ n E S σ H Hf ρ Q, Rel X.K B E S σ H Hf ρ → PostS X.K W B Hf ρ Q (f n E S) → t Q σ H
end

theorem PostS.mono {K : PySem.W.Frag} {W : WX} {B : Gr} {Hf Hf1 : Hp} {ρ ρ1 : List Addr} {Q : Ends} {r : SRes} (ex : Ext Hf Hf1) (pr : Pre ρ ρ1) (p : PostS K W B Hf ρ Q r) : PostS K W B Hf1 ρ1 Q r := by
  cases r with
  | nx E S => exact fun σ' H' Hf' ρ' r a b => p σ' H' Hf' ρ' r (ex.trans a) (pr.trans b)
  | bk E S => exact fun σ' H' Hf' ρ' r a b => p σ' H' Hf' ρ' r (ex.trans a) (pr.trans b)
  | ct E S => exact fun σ' H' Hf' ρ' r a b => p σ' H' Hf' ρ' r (ex.trans a) (pr.trans b)
  | rt d S => exact p
  | ex x E S => exact fun c od σ' H' Hf' ρ' r a b => p c od σ' H' Hf' ρ' r (ex.trans a) (pr.trans b)
  | stk => exact p

/-! ### small lemmas -/
section
variable {K : PySem.W.Frag} {W : WX} {B : Gr} {E : Env} {S S' : Store} {σ : L2.St} {H Hf H' Hf' : Hp} {ρ ρ' : List Addr} {Q : VK}
theorem Dt.dw (h : HR K H Hf ρ S) {d : D} {v : V} (x : Dt K Hf ρ d v) : Dw K H Hf ρ d v := by
  cases d with
  | lst l =>
    simp only [Dt] at x
    obtain ⟨a, vs, h1, h2, h3⟩ := x
    refine ⟨a, vs, h1, fun z => ?_, h.sub _ _ h2, h3⟩
    obtain ⟨n, e⟩ := List.mem_iff_getElem?.mp z
    rw [h.hd n a e] at h2; cases h2
  | dct l =>
    simp only [Dt] at x
    obtain ⟨a, o, vs, h1, h2, h3⟩ := x
    refine ⟨a, vs, h1, fun z => ?_, .inr ⟨o, h.sub _ _ h2⟩, h3⟩
    obtain ⟨n, e⟩ := List.mem_iff_getElem?.mp z
    rw [h.hd n a e] at h2; cases h2
  | _ => exact x
theorem Dw.mono (t : Tr H Hf ρ H' Hf' ρ') {d : D} {v : V} (hn : HR K H Hf ρ S) (x : Dw K H Hf ρ d v) : Dw K H' Hf' ρ' d v := by
  have nr : ∀ a o, a ∉ ρ → H a = some o → a ∉ ρ' := fun a o h1 h2 z => by
    rcases t.newh a z with z | z
    · exact h1 z
    · rw [h2] at z; cases z
  cases d with
  | lst l =>
    obtain ⟨a, vs, h1, h2, h3, h4⟩ := x
    exact ⟨a, vs, h1, nr a _ h2 h3, t.keep _ _ h3 h2, Dts.mono t.hf t.pre _ _ h4⟩
  | dct l =>
    obtain ⟨a, vs, h1, h2, h3, h4⟩ := x
    rcases h3 with h3 | ⟨o, h3⟩
    · exact ⟨a, vs, h1, nr a _ h2 h3, .inl (t.keep _ _ h3 h2), Dks.mono t.hf t.pre _ _ h4⟩
    · exact ⟨a, vs, h1, nr a _ h2 h3, .inr ⟨o, t.keep _ _ h3 h2⟩, Dks.mono t.hf t.pre _ _ h4⟩
  | non => exact Dt.mono (K := K) t.hf t.pre _ _ x
  | bl b => exact Dt.mono (K := K) t.hf t.pre _ _ x
  | int i => exact Dt.mono (K := K) t.hf t.pre _ _ x
  | str s => exact Dt.mono (K := K) t.hf t.pre _ _ x
  | tup l => exact Dt.mono (K := K) t.hf t.pre _ _ x
  | ref a => exact Dt.mono (K := K) t.hf t.pre _ _ x
  | hd n => exact Dt.mono (K := K) t.hf t.pre _ _ x
  | scr l => exact Dt.mono (K := K) t.hf t.pre _ _ x
  | ty l => exact Dt.mono (K := K) t.hf t.pre _ _ x
theorem PostX.tr (t : Tr H Hf ρ H' Hf' ρ') {x : Exc} {S1 : Store} (h : PostX K W σ H Hf ρ x S1) : PostX K W σ H' Hf' ρ' x S1 :=
  fun c od H2 Hf2 ρ2 a b e => h c od H2 Hf2 ρ2 a (t.trans b) e
/-- what is one's own is shared from now on -/
theorem own_share {p : Addr} {l : List D} (h : HR K H' Hf' ρ' S') (t : Tr H Hf ρ H' Hf' ρ') (h1 : H p = none) (h2 : Hf' p = none) (h3 : p ∉ ρ') (o : OwnAt K H' Hf' ρ' p (.lst l)) :
    ∃ Hf2, HR K H' Hf2 ρ' S' ∧ Tr H Hf ρ H' Hf2 ρ' ∧ Dt K Hf2 ρ' (.lst l) (.ref p) := by
  obtain ⟨u, hu⟩ := o.there
  have hr := h.freeze h2 hu h3
  have ex : Ext Hf' (upd Hf' p u) := fun a z e => by
    have : a ≠ p := fun q => by subst q; rw [h2] at e; cases e
    rw [upd_ne this]; exact e
  refine ⟨upd Hf' p u, hr, ⟨t.hf.trans ex, t.pre, t.keep, fun a z => ?_, t.newh, t.alive⟩, ?_⟩
  · by_cases e : a = p
    · subst e; exact .inr h1
    · rw [upd_ne e] at z; exact t.fresh a z
  · obtain ⟨vs, h5, h6⟩ := o
    rw [h5] at hu; cases hu
    exact ⟨p, vs, rfl, upd_same, Dts.mono ex (Pre.refl _) _ _ h6⟩
/-- a dict that is one's own is locked and shared from now on -/
theorem own_lock {p : Addr} {l : List (Key × D)} (h : HR K H' Hf' ρ' S') (t : Tr H Hf ρ H' Hf' ρ') (h1 : H p = none) (h2 : Hf' p = none) (h3 : p ∉ ρ') (o : OwnAt K H' Hf' ρ' p (.dct l)) :
    ∃ u, H' p = some u ∧ Mut (some u) ∧ ∀ od, ∃ Hf2, HR K (upd H' p (.frz od u)) Hf2 ρ' S' ∧ Tr H Hf ρ (upd H' p (.frz od u)) Hf2 ρ' ∧ Dt K Hf2 ρ' (.dct l) (.ref p) := by
  obtain ⟨vs, h5, h6⟩ := o
  refine ⟨_, h5, True.intro, fun od => ?_⟩
  have hr := (h.own (o := .frz od (.dK vs)) h2 h3).freeze h2 upd_same h3
  have ex : Ext Hf' (upd Hf' p (.frz od (.dK vs))) := fun a z e => by
    have : a ≠ p := fun q => by subst q; rw [h2] at e; cases e
    rw [upd_ne this]; exact e
  refine ⟨_, hr, ⟨t.hf.trans ex, t.pre, fun a z e1 e2 => ?_, fun a z => ?_, t.newh, fun a z => ?_⟩, ⟨p, od, vs, rfl, upd_same, Dks.mono ex (Pre.refl _) _ _ h6⟩⟩
  · have : a ≠ p := fun q => by subst q; rw [h1] at e1; cases e1
    rw [upd_ne this]; exact t.keep _ _ e1 e2
  · by_cases e : a = p
    · subst e; exact .inr h1
    · rw [upd_ne e] at z; exact t.fresh a z
  · by_cases e : a = p
    · subst e; rw [upd_same]; simp
    · rw [upd_ne e]; exact t.alive a z
def lockQ (Q : VK) : VK := fun v H1 => Q v H1 ∨ ∃ d u, v = .ref d ∧ H1 d = some u ∧ Mut (some u) ∧ ∀ od, Q v (upd H1 d (.frz od u))
theorem PostE.ofF {r : Res D} (h : PostE K W σ H Hf ρ Q r) : PostF K W σ H Hf ρ (lockQ Q) r := by
  cases r with
  | ok d S1 =>
    intro p H1 Hf1 ρ1 a b c e f o
    cases d with
    | lst l =>
      obtain ⟨Hf2, a2, b2, d2⟩ := own_share a b c e f o
      exact .inl (h _ _ _ _ a2 b2 d2)
    | dct l =>
      obtain ⟨u, e1, e2, e3⟩ := own_lock a b c e f o
      refine .inr ⟨p, u, rfl, e1, e2, fun od => ?_⟩
      obtain ⟨Hf2, a2, b2, d2⟩ := e3 od
      exact h _ _ _ _ a2 b2 d2
    | _ => exact o.elim
  | exc x S1 => exact h
  | stk => exact h
theorem PostE.ofFn {r : Res D} (hn : ∀ d S1, r = .ok d S1 → ∀ l, d ≠ .dct l) (h : PostE K W σ H Hf ρ Q r) : PostF K W σ H Hf ρ Q r := by
  cases r with
  | ok d S1 =>
    intro p H1 Hf1 ρ1 a b c e f o
    cases d with
    | lst l =>
      obtain ⟨Hf2, a2, b2, d2⟩ := own_share a b c e f o
      exact h _ _ _ _ a2 b2 d2
    | dct l => exact absurd rfl (hn _ _ rfl l)
    | _ => exact o.elim
  | exc x S1 => exact h
  | stk => exact h
theorem PostR.ofE {r : Res D} (h : PostR K W σ H Hf ρ Q r) : PostE K W σ H Hf ρ Q r := by
  cases r with
  | ok d S1 => exact fun v H1 Hf1 ρ1 a b c => h v H1 Hf1 ρ1 a b (c.dw a)
  | exc x S1 => exact h
  | stk => exact h
end
section
variable {X : Cx} {B : Gr} {W : WX} {e : Expr} {f : FE}
theorem pe_lockP {e : Expr} {t : TE} (h : PE X e t) : PE X e (fun σ H Q => t σ H (lockQ Q)) := by
  refine ⟨fun pins s σ H Q I hw => ?_⟩
  refine thn (h.run pins s σ H _ I hw) fun v s1 ⟨x, H1, I1, r, q⟩ => ?_
  rcases q with q | ⟨d, u, e, hd, mu, q⟩
  · exact ⟨x, H1, I1, r, q⟩
  · obtain ⟨od, I2⟩ := I1.lock hd mu
    exact ⟨x, _, I2, r, q od⟩
theorem QF.qe (h : QF X B W e f) : QE X B W e f := by
  obtain ⟨t, h1, h2⟩ := h
  exact ⟨_, pe_lockP h1, fun n E S σ H Hf ρ Q r p => h2 n E S σ H Hf ρ _ r p.ofF⟩
theorem QE.qr (h : QE X B W e f) : QR X B W e f := by
  obtain ⟨t, h1, h2⟩ := h
  exact ⟨t, h1, fun n E S σ H Hf ρ Q r p => h2 n E S σ H Hf ρ Q r p.ofE⟩
end
end DL

end

section
set_option autoImplicit false
set_option autoImplicit false
namespace DL
open PySem PySem.Spec PyProof.Rows L2

/-! ### names and constants -/
/-- the name x stands in slot i -/
structure Vr (X : Cx) (i : Nat) (x : Str) : Prop where
  ix : X.N[i]? = some x
  vis : Vis X.env.scope x
  db : (x == ("__debug__" : Str)) = false
  cd : (x == ("__classdict__" : Str)) = false
/-- .. and may be stored -/
structure Lr (X : Cx) (i : Nat) (x : Str) : Prop where
  nd : X.N.Nodup
  ix : X.N[i]? = some x
  loc : Loc X.env.scope x
  fn : X.fn x = true ∨ X.env.scope.names.lookup x = some .local

def fC (d : D) : FE := fun _ _ S => .ok d S
def fVar (i : Nat) : FE := fun _ E S => match E[i]? with
  | some (some (.fz d)) => .ok d S
  | _ => .stk
def fRd (i : Nat) : FE := fun _ E S => match E[i]? with
  | some (some (.fz d)) => .ok d S
  | some (some (.own d)) => .ok d S
  | _ => .stk
section
variable {X : Cx} {B : Gr} {W : WX} {pos : Pos} {x : Str} {i : Nat}
theorem q_int {z : Int} {j : Nat} : QE X B W (.Constant (.int z) j pos) (fC (.int z)) :=
  ⟨_, pe_int, fun n E S σ H Hf ρ Q r p => p _ _ _ _ r.hr (Tr.refl _ _ _) rfl⟩
theorem q_bl {z : Bool} {j : Nat} : QE X B W (.Constant (.bool z) j pos) (fC (.bl z)) :=
  ⟨_, pe_bl, fun n E S σ H Hf ρ Q r p => p _ _ _ _ r.hr (Tr.refl _ _ _) rfl⟩
theorem q_non {j : Nat} : QE X B W (.Constant .none j pos) (fC .non) :=
  ⟨_, pe_non, fun n E S σ H Hf ρ Q r p => p _ _ _ _ r.hr (Tr.refl _ _ _) rfl⟩
theorem q_str {z : Str} {j : Nat} : QE X B W (.Constant (.str z) j pos) (fC (.str z)) :=
  ⟨_, pe_str, fun n E S σ H Hf ρ Q r p => p _ _ _ _ r.hr (Tr.refl _ _ _) rfl⟩
theorem q_var (v : Vr X i x) : QE X B W (.Name x pos) (fVar i) := by
  refine ⟨_, pe_var v.ix v.vis v.db v.cd, fun n E S σ H Hf ρ Q r p => ?_⟩
  unfold fVar at p
  cases e : E[i]? with
  | none => rw [e] at p; exact p.elim
  | some o =>
    cases o with
    | none => rw [e] at p; exact p.elim
    | some s =>
      cases s with
      | own d => rw [e] at p; exact p.elim
      | fz d =>
        rw [e] at p
        obtain ⟨u, h1, h2⟩ := r.sl i _ e
        exact ⟨u, h1, p _ _ _ _ r.hr (Tr.refl _ _ _) h2⟩
theorem q_rd (v : Vr X i x) : QR X B W (.Name x pos) (fRd i) := by
  refine ⟨_, pe_var v.ix v.vis v.db v.cd, fun n E S σ H Hf ρ Q r p => ?_⟩
  unfold fRd at p
  cases e : E[i]? with
  | none => rw [e] at p; exact p.elim
  | some o =>
    cases o with
    | none => rw [e] at p; exact p.elim
    | some s =>
      cases s with
      | own d =>
        rw [e] at p
        obtain ⟨a, h1, _, _, h4, h5⟩ := r.sl i _ e
        refine ⟨.ref a, h1, p _ _ _ _ r.hr (Tr.refl _ _ _) ?_⟩
        cases d with
        | lst l => obtain ⟨vs, k1, k2⟩ := h5; exact ⟨a, vs, rfl, h4, k1, k2⟩
        | dct l => obtain ⟨vs, k1, k2⟩ := h5; exact ⟨a, vs, rfl, h4, .inl k1, k2⟩
        | _ => exact h5.elim
      | fz d =>
        rw [e] at p
        obtain ⟨u, h1, h2⟩ := r.sl i _ e
        exact ⟨u, h1, p _ _ _ _ r.hr (Tr.refl _ _ _) (h2.dw r.hr)⟩
/-- a module's int -/
theorem q_gint {z : Int} (hg : Gl X x) (hm : ∃ t, X.mg x = some (.int z t)) (hd : (x == ("__debug__" : Str)) = false) : QE X B W (.Name x pos) (fC (.int z)) := by
  obtain ⟨t, hm⟩ := hm
  exact ⟨_, pe_glob (v := .int z) hg hm ⟨t, rfl⟩ hd, fun n E S σ H Hf ρ Q r p => p _ _ _ _ r.hr (Tr.refl _ _ _) rfl⟩
theorem q_gstr {z : Str} (hg : Gl X x) (hm : ∃ t, X.mg x = some (.str z t)) (hd : (x == ("__debug__" : Str)) = false) : QE X B W (.Name x pos) (fC (.str z)) := by
  obtain ⟨t, hm⟩ := hm
  exact ⟨_, pe_glob (v := .str z) hg hm ⟨t, rfl⟩ hd, fun n E S σ H Hf ρ Q r p => p _ _ _ _ r.hr (Tr.refl _ _ _) rfl⟩
/-- a def, a class, as a value -/
theorem q_gref (hg : Gl X x) (hm : X.mg x = some (.ref (He.ga X.K x))) (hd : (x == ("__debug__" : Str)) = false) : QE X B W (.Name x pos) (fC (.ref x)) :=
  ⟨_, pe_glob (v := .ref (He.ga X.K x)) hg hm rfl hd, fun n E S σ H Hf ρ Q r p => p _ _ _ _ r.hr (Tr.refl _ _ _) rfl⟩
end

/-! ### two-place operators -/
/-- f makes of two things what g tells -/
def OpQ (X : Cx) (F : Value → Value → Sem Value) (g : D → D → Option D) : Prop := ∃ r, OpR X F r ∧
  ∀ a b x y H Hf ρ S Q d, HR X.K H Hf ρ S → Dw X.K H Hf ρ a x → Dw X.K H Hf ρ b y → g a b = some d →
    (∀ v H' Hf' ρ', HR X.K H' Hf' ρ' S → Tr H Hf ρ H' Hf' ρ' → Dt X.K Hf' ρ' d v → Q v H') → r x y H Q
def fOp (g : D → D → Option D) (fa fb : FE) : FE := fun n E S => (fa n E S).bind fun a S1 => (fb n E S1).bind fun b S2 => match g a b with
  | some d => .ok d S2
  | none => .stk
theorem OpQ.orI {X : Cx} {F : Value → Value → Sem Value} {g g' G : D → D → Option D} (h : OpQ X F g) (h' : OpQ X F g') (hi : ∀ a b d, G a b = some d → g a b = some d ∨ g' a b = some d) : OpQ X F G := by
  obtain ⟨r, h1, h2⟩ := h
  obtain ⟨r', k1, k2⟩ := h'
  refine ⟨_, h1.or k1, fun a b x y H Hf ρ S Q d hr wa wb e q => ?_⟩
  rcases hi a b d e with z | z
  · exact .inl (h2 a b x y H Hf ρ S Q d hr wa wb z q)
  · exact .inr (k2 a b x y H Hf ρ S Q d hr wa wb z q)
section
variable {X : Cx} {B : Gr} {W : WX} {pos : Pos} {a b c : Expr} {fa fb fc : FE}
theorem q_two {g : D → D → Option D} {ta tb : TE} {r : R2}
    (ha : ∀ n E S σ H Hf ρ Q, Rel X.K B E S σ H Hf ρ → PostR X.K W σ H Hf ρ Q (fa n E S) → ta σ H Q)
    (hb : ∀ n E S σ H Hf ρ Q, Rel X.K B E S σ H Hf ρ → PostR X.K W σ H Hf ρ Q (fb n E S) → tb σ H Q)
    (hr : ∀ a b x y H Hf ρ S Q d, HR X.K H Hf ρ S → Dw X.K H Hf ρ a x → Dw X.K H Hf ρ b y → g a b = some d →
      (∀ v H' Hf' ρ', HR X.K H' Hf' ρ' S → Tr H Hf ρ H' Hf' ρ' → Dt X.K Hf' ρ' d v → Q v H') → r x y H Q)
    (n : Nat) (E : Env) (S : Store) (σ : L2.St) (H Hf : Hp) (ρ : List Addr) (Q : VK) (R : Rel X.K B E S σ H Hf ρ) (p : PostE X.K W σ H Hf ρ Q (fOp g fa fb n E S)) : tOp r ta tb σ H Q := by
  refine ha n E S σ H Hf ρ _ R ?_
  unfold fOp at p
  cases ea : fa n E S with
  | stk => rw [ea] at p; exact p
  | exc x S1 => rw [ea] at p; exact p
  | ok d1 S1 =>
    rw [ea] at p
    intro x H1 Hf1 ρ1 hr1 t1 w1
    refine hb n E S1 σ H1 Hf1 ρ1 _ (R.step hr1 t1) ?_
    have p : PostE X.K W σ H Hf ρ Q ((fb n E S1).bind fun b S2 => match g d1 b with | some d => .ok d S2 | none => .stk) := p
    cases eb : fb n E S1 with
    | stk => rw [eb] at p; exact p
    | exc x S2 => rw [eb] at p; exact PostX.tr t1 p
    | ok d2 S2 =>
      rw [eb] at p
      intro y H2 Hf2 ρ2 hr2 t2 w2
      have p : PostE X.K W σ H Hf ρ Q (match g d1 d2 with | some d => .ok d S2 | none => .stk) := p
      cases eg : g d1 d2 with
      | none => rw [eg] at p; exact p.elim
      | some d =>
        rw [eg] at p
        refine hr d1 d2 x y H2 Hf2 ρ2 S2 Q d hr2 (w1.mono t2 hr1) w2 eg fun v H' Hf' ρ' h1 h2 h3 => ?_
        exact p v H' Hf' ρ' h1 ((t1.trans t2).trans h2) h3
theorem q_op {op : Operator} {g : D → D → Option D} (ho : OpQ X (binaryOp op) g) (ha : QR X B W a fa) (hb : QR X B W b fb) : QE X B W (.BinOp a op b pos) (fOp g fa fb) := by
  obtain ⟨r, h1, h2⟩ := ho
  obtain ⟨ta, a1, a2⟩ := ha
  obtain ⟨tb, b1, b2⟩ := hb
  exact ⟨_, pe_op h1 a1 b1, q_two a2 b2 h2⟩
theorem q_cmp {op : CmpOp} {g : D → D → Option D} (ho : OpQ X (compareOp op) g) (hm : behindInMarks op b = false) (ha : QR X B W a fa) (hb : QR X B W b fb) : QE X B W (.Compare a [op] [b] pos) (fOp g fa fb) := by
  obtain ⟨r, h1, h2⟩ := ho
  obtain ⟨ta, a1, a2⟩ := ha
  obtain ⟨tb, b1, b2⟩ := hb
  exact ⟨_, pe_cmpR h1 a1 b1 hm, q_two a2 b2 h2⟩
end

/-! ### the operators -/
section
variable {X : Cx}
/-- ints, under a condition -/
def iOp (C : Int → Int → Bool) (gd : Int → Int → D) : D → D → Option D
  | .int i, .int j => if C i j = true then some (gd i j) else none
  | _, _ => none
theorem iOp_inv {C : Int → Int → Bool} {gd : Int → Int → D} {a b d : D} (h : iOp C gd a b = some d) : ∃ i j, a = .int i ∧ b = .int j ∧ C i j = true ∧ d = gd i j := by
  unfold iOp at h
  split at h
  · split at h
    · cases h
      exact ⟨_, _, rfl, rfl, by assumption, rfl⟩
    · cases h
  · cases h
theorem opq_int {F : Value → Value → Sem Value} {C : Int → Int → Prop} {Cb : Int → Int → Bool} {g : Int → Int → V} {gd : Int → Int → D} (h : OpR X F (rI C g)) (hc : ∀ i j, Cb i j = true → C i j) (hg : ∀ i j (Hf : Hp) (ρ : List Addr), Dt X.K Hf ρ (gd i j) (g i j)) :
    OpQ X F (iOp Cb gd) := by
  refine ⟨_, h, fun a b x y H Hf ρ S Q d hr wa wb e q => ?_⟩
  obtain ⟨i, j, rfl, rfl, c, rfl⟩ := iOp_inv e
  exact ⟨i, j, wa, wb, hc i j c, q _ _ _ _ hr (Tr.refl _ _ _) (hg i j Hf ρ)⟩
theorem opq_int0 {F : Value → Value → Sem Value} {g : Int → Int → V} {gd : Int → Int → D} (h : OpR X F (rI0 g)) (hg : ∀ i j (Hf : Hp) (ρ : List Addr), Dt X.K Hf ρ (gd i j) (g i j)) :
    OpQ X F (iOp (fun _ _ => true) gd) := by
  refine ⟨_, h, fun a b x y H Hf ρ S Q d hr wa wb e q => ?_⟩
  obtain ⟨i, j, rfl, rfl, c, rfl⟩ := iOp_inv e
  exact ⟨i, j, wa, wb, q _ _ _ _ hr (Tr.refl _ _ _) (hg i j Hf ρ)⟩

end
/-! ### lists of data -/
section
variable {K : PySem.W.Frag} {Hf : Hp} {ρ : List Addr}
theorem Dts.length : ∀ {l : List D} {vs : List V}, Dts K Hf ρ l vs → l.length = vs.length
  | [], vs, h => by simp only [Dts] at h; subst h; rfl
  | d :: l, vs, h => by
    simp only [Dts] at h
    obtain ⟨v, r, rfl, _, h3⟩ := h
    simp [Dts.length h3]
theorem Dts.append : ∀ {l m : List D} {vs us : List V}, Dts K Hf ρ l vs → Dts K Hf ρ m us → Dts K Hf ρ (l ++ m) (vs ++ us)
  | [], m, vs, us, h, g => by simp only [Dts] at h; subst h; exact g
  | d :: l, m, vs, us, h, g => by
    simp only [Dts] at h
    obtain ⟨v, r, rfl, h2, h3⟩ := h
    exact ⟨v, r ++ us, rfl, h2, Dts.append h3 g⟩
theorem Dts.one {d : D} {v : V} (h : Dt K Hf ρ d v) : Dts K Hf ρ [d] [v] := ⟨v, [], rfl, h, rfl⟩
theorem Dts.get : ∀ {l : List D} {vs : List V} {i : Nat} {d : D}, Dts K Hf ρ l vs → l[i]? = some d → ∃ v, vs[i]? = some v ∧ Dt K Hf ρ d v
  | [], _, _, _, _, e => by simp at e
  | c :: l, vs, 0, d, h, e => by
    simp only [Dts] at h
    obtain ⟨v, r, rfl, h2, h3⟩ := h
    simp at e; subst e
    exact ⟨v, rfl, h2⟩
  | c :: l, vs, i + 1, d, h, e => by
    simp only [Dts] at h
    obtain ⟨v, r, rfl, h2, h3⟩ := h
    obtain ⟨u, a, b⟩ := Dts.get (i := i) h3 (by simpa using e)
    exact ⟨u, by simpa using a, b⟩
theorem Dts.get' : ∀ {l : List D} {vs : List V} {i : Nat} {v : V}, Dts K Hf ρ l vs → vs[i]? = some v → ∃ d, l[i]? = some d ∧ Dt K Hf ρ d v := by
  intro l vs i v h e
  have hi : i < l.length := by rw [h.length]; exact (List.getElem?_eq_some_iff.mp e).1
  obtain ⟨u, a, b⟩ := h.get (List.getElem?_eq_getElem hi)
  rw [e] at a; cases a
  exact ⟨_, List.getElem?_eq_getElem hi, b⟩
theorem Dts.take : ∀ {l : List D} {vs : List V} (n : Nat), Dts K Hf ρ l vs → Dts K Hf ρ (l.take n) (vs.take n)
  | _, _, 0, _ => by simp [Dts]
  | [], vs, n + 1, h => by simp only [Dts] at h; subst h; simp [Dts]
  | c :: l, vs, n + 1, h => by
    simp only [Dts] at h
    obtain ⟨v, r, rfl, h2, h3⟩ := h
    exact ⟨v, r.take n, rfl, h2, Dts.take n h3⟩
theorem Dts.drop : ∀ {l : List D} {vs : List V} (n : Nat), Dts K Hf ρ l vs → Dts K Hf ρ (l.drop n) (vs.drop n)
  | _, _, 0, h => h
  | [], vs, n + 1, h => by simp only [Dts] at h; subst h; simp [Dts]
  | c :: l, vs, n + 1, h => by
    simp only [Dts] at h
    obtain ⟨v, r, rfl, h2, h3⟩ := h
    exact Dts.drop n h3
theorem Dts.reverse : ∀ {l : List D} {vs : List V}, Dts K Hf ρ l vs → Dts K Hf ρ l.reverse vs.reverse
  | [], vs, h => by simp only [Dts] at h; subst h; simp [Dts]
  | c :: l, vs, h => by
    simp only [Dts] at h
    obtain ⟨v, r, rfl, h2, h3⟩ := h
    rw [List.reverse_cons, List.reverse_cons]
    exact (Dts.reverse h3).append (Dts.one h2)
theorem Dts.set : ∀ {l : List D} {vs : List V} {d : D} {v : V} (i : Nat), Dts K Hf ρ l vs → Dt K Hf ρ d v → Dts K Hf ρ (l.set i d) (vs.set i v)
  | [], vs, _, _, i, h, g => by simp only [Dts] at h; subst h; simp [Dts]
  | c :: l, vs, d, v, 0, h, g => by
    simp only [Dts] at h
    obtain ⟨u, r, rfl, h2, h3⟩ := h
    exact ⟨v, r, rfl, g, h3⟩
  | c :: l, vs, d, v, i + 1, h, g => by
    simp only [Dts] at h
    obtain ⟨u, r, rfl, h2, h3⟩ := h
    exact ⟨u, r.set i v, rfl, h2, Dts.set i h3 g⟩
theorem Dts.ints : ∀ {ns : List Int} {vs : List V}, Dts K Hf ρ (ns.map D.int) vs → vs = ns.map V.int
  | [], vs, h => by simp only [List.map_nil, Dts] at h; exact h
  | n :: ns, vs, h => by
    simp only [List.map_cons, Dts] at h
    obtain ⟨v, r, rfl, h2, h3⟩ := h
    have h2 : v = .int n := h2
    rw [h2, Dts.ints h3]
    rfl
theorem Dts.ofInts : ∀ (ns : List Int), Dts K Hf ρ (ns.map D.int) (ns.map V.int)
  | [] => rfl
  | n :: ns => ⟨_, _, rfl, rfl, Dts.ofInts ns⟩
theorem Dts.bls : ∀ {ns : List Bool} {vs : List V}, Dts K Hf ρ (ns.map D.bl) vs → vs = ns.map V.bl
  | [], vs, h => by simp only [List.map_nil, Dts] at h; exact h
  | n :: ns, vs, h => by
    simp only [List.map_cons, Dts] at h
    obtain ⟨v, r, rfl, h2, h3⟩ := h
    have h2 : v = .bl n := h2
    rw [h2, Dts.bls h3]
    rfl
theorem Dts.strs : ∀ {ns : List Str} {vs : List V}, Dts K Hf ρ (ns.map D.str) vs → vs = ns.map V.str
  | [], vs, h => by simp only [List.map_nil, Dts] at h; exact h
  | n :: ns, vs, h => by
    simp only [List.map_cons, Dts] at h
    obtain ⟨v, r, rfl, h2, h3⟩ := h
    have h2 : v = .str n := h2
    rw [h2, Dts.strs h3]
    rfl
theorem Dts.ofStrs : ∀ (ns : List Str), Dts K Hf ρ (ns.map D.str) (ns.map V.str)
  | [] => rfl
  | n :: ns => ⟨_, _, rfl, rfl, Dts.ofStrs ns⟩
end
/-- the ints of a list of data -/
def ints? : List D → Option (List Int)
  | [] => some []
  | .int i :: l => (ints? l).map (i :: ·)
  | _ :: _ => none
theorem ints?_eq : ∀ {l : List D} {ns : List Int}, ints? l = some ns → l = ns.map D.int
  | [], ns, h => by cases h; rfl
  | .int i :: l, ns, h => by
    simp only [ints?, Option.map_eq_some_iff] at h
    obtain ⟨m, h1, rfl⟩ := h
    rw [ints?_eq h1]; rfl
  | .non :: _, _, h | .bl _ :: _, _, h | .str _ :: _, _, h | .tup _ :: _, _, h | .lst _ :: _, _, h | .dct _ :: _, _, h | .ref _ :: _, _, h | .hd _ :: _, _, h | .scr _ :: _, _, h | .ty _ :: _, _, h => by cases h
@[simp] theorem ints?_map (ns : List Int) : ints? (ns.map D.int) = some ns := by
  induction ns with
  | nil => rfl
  | cons n ns ih => simp [ints?, ih]
def bls? : List D → Option (List Bool)
  | [] => some []
  | .bl i :: l => (bls? l).map (i :: ·)
  | _ :: _ => none
theorem bls?_eq : ∀ {l : List D} {ns : List Bool}, bls? l = some ns → l = ns.map D.bl
  | [], ns, h => by cases h; rfl
  | .bl i :: l, ns, h => by
    simp only [bls?, Option.map_eq_some_iff] at h
    obtain ⟨m, h1, rfl⟩ := h
    rw [bls?_eq h1]; rfl
  | .non :: _, _, h | .int _ :: _, _, h | .str _ :: _, _, h | .tup _ :: _, _, h | .lst _ :: _, _, h | .dct _ :: _, _, h | .ref _ :: _, _, h | .hd _ :: _, _, h | .scr _ :: _, _, h | .ty _ :: _, _, h => by cases h
@[simp] theorem bls?_map (ns : List Bool) : bls? (ns.map D.bl) = some ns := by
  induction ns with
  | nil => rfl
  | cons n ns ih => simp [bls?, ih]
def strs? : List D → Option (List Str)
  | [] => some []
  | .str i :: l => (strs? l).map (i :: ·)
  | _ :: _ => none
theorem strs?_eq : ∀ {l : List D} {ns : List Str}, strs? l = some ns → l = ns.map D.str
  | [], ns, h => by cases h; rfl
  | .str i :: l, ns, h => by
    simp only [strs?, Option.map_eq_some_iff] at h
    obtain ⟨m, h1, rfl⟩ := h
    rw [strs?_eq h1]; rfl
  | .non :: _, _, h | .int _ :: _, _, h | .bl _ :: _, _, h | .tup _ :: _, _, h | .lst _ :: _, _, h | .dct _ :: _, _, h | .ref _ :: _, _, h | .hd _ :: _, _, h | .scr _ :: _, _, h | .ty _ :: _, _, h => by cases h
@[simp] theorem strs?_map (ns : List Str) : strs? (ns.map D.str) = some ns := by
  induction ns with
  | nil => rfl
  | cons n ns ih => simp [strs?, ih]
/-- a new frozen thing as an answer -/
theorem new_ans {K : PySem.W.Frag} {H Hf : Hp} {ρ : List Addr} {S : Store} {d : D} {o : HO} {p : Addr} {Q : VK} (hr : HR K H Hf ρ S) (hp : H p = none)
    (hd : ∀ Hf', Ext Hf Hf' → Hf' p = some o → Dt K Hf' ρ d (.ref p))
    (q : ∀ v H' Hf' ρ', HR K H' Hf' ρ' S → Tr H Hf ρ H' Hf' ρ' → Dt K Hf' ρ' d v → Q v H') : Q (.ref p) (upd H p o) :=
  q _ _ _ _ (hr.new hp (hr.notin hp)) (Tr.new hp hr.sub) (hd _ (Tr.new (ρ := ρ) (o := o) hp hr.sub).hf upd_same)
end DL

end

section
set_option autoImplicit false
set_option autoImplicit false
namespace DL
open PySem PySem.Spec PyProof.Rows L2

/-! ### data as the library's -/
mutual
def D.py : D → Option PyData
  | .non => some .none
  | .bl b => some (.bool b)
  | .int i => some (.int i)
  | .str s => some (.str s)
  | .tup l => (D.pys l).map .tuple
  | .lst l => (D.pys l).map .list
  | .dct _ => none
  | .ref _ => none
  | .hd _ => none
  | .scr _ => none
  | .ty _ => none
def D.pys : List D → Option (List PyData)
  | [] => some []
  | d :: l => match D.py d, D.pys l with
    | some a, some b => some (a :: b)
    | _, _ => none
end
section
variable {K : PySem.W.Frag} {H Hf : Hp} {ρ : List Addr}
mutual
theorem Dt.dp (hs : Ext Hf H) : ∀ (d : D) (v : V) (p : PyData), Dt K Hf ρ d v → d.py = some p → Dp K H v p
  | .non, v, p, h, e => by
    have h : v = .non := h
    subst h; simp only [D.py] at e; cases e; exact .non
  | .bl b, v, p, h, e => by
    have h : v = .bl b := h
    subst h; simp only [D.py] at e; cases e; exact .bl b
  | .int b, v, p, h, e => by
    have h : v = .int b := h
    subst h; simp only [D.py] at e; cases e; exact .int b
  | .str b, v, p, h, e => by
    have h : v = .str b := h
    subst h; simp only [D.py] at e; cases e; exact .str b
  | .tup l, v, p, h, e => by
    simp only [Dt] at h
    obtain ⟨a, vs, rfl, h2, h3⟩ := h
    simp only [D.py, Option.map_eq_some_iff] at e
    obtain ⟨ps, e1, rfl⟩ := e
    exact .tup (hs.sqT h2) (Dts.dp hs l vs ps h3 e1)
  | .lst l, v, p, h, e => by
    simp only [Dt] at h
    obtain ⟨a, vs, rfl, h2, h3⟩ := h
    simp only [D.py, Option.map_eq_some_iff] at e
    obtain ⟨ps, e1, rfl⟩ := e
    exact .lst (SqL.of (hs _ _ h2)) (Dts.dp hs l vs ps h3 e1)
  | .dct l, v, p, h, e => by simp only [D.py] at e; cases e
  | .ref l, v, p, h, e => by simp only [D.py] at e; cases e
  | .hd l, v, p, h, e => by simp only [D.py] at e; cases e
  | .scr l, v, p, h, e => by simp only [D.py] at e; cases e
  | .ty l, v, p, h, e => by simp only [D.py] at e; cases e
theorem Dts.dp (hs : Ext Hf H) : ∀ (l : List D) (vs : List V) (ps : List PyData), Dts K Hf ρ l vs → D.pys l = some ps → DpAll K H vs ps
  | [], vs, ps, h, e => by
    simp only [Dts] at h; subst h
    simp only [D.pys] at e; cases e; exact .nil
  | d :: l, vs, ps, h, e => by
    simp only [Dts] at h
    obtain ⟨v, r, rfl, h2, h3⟩ := h
    simp only [D.pys] at e
    split at e
    · rename_i a b e1 e2
      cases e
      exact .cons (Dt.dp hs d v a h2 e1) (Dts.dp hs l r b h3 e2)
    · cases e
end
theorem Dw.dp {S : Store} (hr : HR K H Hf ρ S) {d : D} {v : V} {p : PyData} (h : Dw K H Hf ρ d v) (e : d.py = some p) : Dp K H v p := by
  cases d with
  | lst l =>
    obtain ⟨a, vs, rfl, _, h2, h3⟩ := h
    simp only [D.py, Option.map_eq_some_iff] at e
    obtain ⟨ps, e1, rfl⟩ := e
    exact .lst (SqL.of h2) (Dts.dp hr.sub l vs ps h3 e1)
  | dct l => simp only [D.py] at e; cases e
  | non => exact Dt.dp hr.sub _ _ _ (show Dt K Hf ρ .non v from h) e
  | bl b => exact Dt.dp hr.sub _ _ _ (show Dt K Hf ρ (.bl b) v from h) e
  | int b => exact Dt.dp hr.sub _ _ _ (show Dt K Hf ρ (.int b) v from h) e
  | str b => exact Dt.dp hr.sub _ _ _ (show Dt K Hf ρ (.str b) v from h) e
  | tup b => exact Dt.dp hr.sub _ _ _ (show Dt K Hf ρ (.tup b) v from h) e
  | ref b => simp only [D.py] at e; cases e
  | hd b => simp only [D.py] at e; cases e
  | scr b => simp only [D.py] at e; cases e
  | ty b => simp only [D.py] at e; cases e
end
/-- == of scalars of one kind -/
def scalD : D → D → Option Bool
  | .int i, .int j => some (decide (i = j))
  | .str i, .str j => some (decide (i = j))
  | .bl i, .bl j => some (decide (i = j))
  | .non, .non => some true
  | _, _ => none
def deepD (a b : D) : Option Bool := match a.py, b.py with
  | some p, some q => if (SeqAt.shaped p && SeqAt.shaped q) = true then some (PyData.eqv p q) else none
  | _, _ => none
def eqD (a b : D) : Option Bool := match scalD a b with
  | some r => some r
  | none => deepD a b
def gEq (a b : D) : Option D := (eqD a b).map D.bl
def gNe (a b : D) : Option D := (eqD a b).map fun r => D.bl (!r)
theorem scalD_inv {K : PySem.W.Frag} {H Hf : Hp} {ρ : List Addr} {a b : D} {x y : V} {r : Bool} (h : scalD a b = some r) (ha : Dw K H Hf ρ a x) (hb : Dw K H Hf ρ b y) : scal x y = true ∧ decide (x = y) = r := by
  unfold scalD at h
  split at h <;> try cases h
  · have ha : x = .int _ := ha
    have hb : y = .int _ := hb
    subst ha hb; exact ⟨rfl, by simp⟩
  · have ha : x = .str _ := ha
    have hb : y = .str _ := hb
    subst ha hb; exact ⟨rfl, by simp⟩
  · have ha : x = .bl _ := ha
    have hb : y = .bl _ := hb
    subst ha hb; exact ⟨rfl, by simp⟩
  · have ha : x = .non := ha
    have hb : y = .non := hb
    subst ha hb; exact ⟨rfl, by simp⟩
theorem deepD_inv {a b : D} {r : Bool} (h : deepD a b = some r) : ∃ p q, a.py = some p ∧ b.py = some q ∧ SeqAt.shaped p = true ∧ SeqAt.shaped q = true ∧ r = PyData.eqv p q := by
  unfold deepD at h
  split at h
  · rename_i p q e1 e2
    split at h
    · rename_i hc
      rw [Bool.and_eq_true] at hc
      cases h
      exact ⟨p, q, e1, e2, hc.1, hc.2, rfl⟩
    · cases h
  · cases h
section
variable {X : Cx}
theorem opq_eq (hu : X.A.units + 64 < cLine) : OpQ X (compareOp .Eq) gEq := by
  refine ⟨_, op_eq.or (op_eqD hu), fun a b x y H Hf ρ S Q d hr wa wb e q => ?_⟩
  simp only [gEq, Option.map_eq_some_iff] at e
  obtain ⟨r, e, rfl⟩ := e
  unfold eqD at e
  split at e
  · rename_i r' e1
    cases e
    obtain ⟨h1, h2⟩ := scalD_inv e1 wa wb
    refine .inl ⟨h1, ?_⟩
    rw [h2]
    exact q _ _ _ _ hr (Tr.refl _ _ _) rfl
  · obtain ⟨p, p', e1, e2, s1, s2, rfl⟩ := deepD_inv e
    exact .inr ⟨p, p', wa.dp hr e1, wb.dp hr e2, s1, s2, q _ _ _ _ hr (Tr.refl _ _ _) rfl⟩
theorem opq_ne (hu : X.A.units + 64 < cLine) : OpQ X (compareOp .NotEq) gNe := by
  refine ⟨_, op_ne.or (op_neD hu), fun a b x y H Hf ρ S Q d hr wa wb e q => ?_⟩
  simp only [gNe, Option.map_eq_some_iff] at e
  obtain ⟨r, e, rfl⟩ := e
  unfold eqD at e
  split at e
  · rename_i r' e1
    cases e
    obtain ⟨h1, h2⟩ := scalD_inv e1 wa wb
    refine .inl ⟨h1, ?_⟩
    rw [h2]
    exact q _ _ _ _ hr (Tr.refl _ _ _) rfl
  · obtain ⟨p, p', e1, e2, s1, s2, rfl⟩ := deepD_inv e
    exact .inr ⟨p, p', wa.dp hr e1, wb.dp hr e2, s1, s2, q _ _ _ _ hr (Tr.refl _ _ _) rfl⟩
end

/-! ### + -/
def gAdd : D → D → Option D
  | .int i, .int j => some (.int (i + j))
  | .str i, .str j => if i.length + j.length ≤ sizeLine then some (.str (i ++ j)) else none
  | .tup i, .tup j => if i.length + j.length ≤ sizeLine then some (.tup (i ++ j)) else none
  | .lst i, .lst j => if i.length + j.length ≤ sizeLine then some (.lst (i ++ j)) else none
  | _, _ => none
section
variable {X : Cx}
def gAddS : D → D → Option D
  | .str i, .str j => if i.length + j.length ≤ sizeLine then some (.str (i ++ j)) else none
  | _, _ => none
def gAddT : D → D → Option D
  | .tup i, .tup j => if i.length + j.length ≤ sizeLine then some (.tup (i ++ j)) else none
  | _, _ => none
def gAddL : D → D → Option D
  | .lst i, .lst j => if i.length + j.length ≤ sizeLine then some (.lst (i ++ j)) else none
  | _, _ => none
theorem opq_addS : OpQ X (binaryOp .Add) gAddS := by
  refine ⟨_, op_add_str, fun a b x y H Hf ρ S Q d hr wa wb e q => ?_⟩
  unfold gAddS at e
  split at e
  · rename_i i j
    split at e
    · rename_i hc
      cases e
      exact ⟨i, j, wa, wb, hc, q _ _ _ _ hr (Tr.refl _ _ _) rfl⟩
    · cases e
  · cases e
theorem opq_addL : OpQ X (binaryOp .Add) gAddL := by
  refine ⟨_, op_cat, fun a b x y H Hf ρ S Q d hr wa wb e q => ?_⟩
  unfold gAddL at e
  split at e
  · rename_i i j
    split at e
    · rename_i hc
      cases e
      obtain ⟨l, vs, rfl, _, h1, h2⟩ := wa
      obtain ⟨m, us, rfl, _, h3, h4⟩ := wb
      refine ⟨l, m, vs, us, rfl, rfl, h1, h3, by rw [← h2.length, ← h4.length]; exact hc, fun p hp => ?_⟩
      exact new_ans (d := .lst (i ++ j)) hr hp (fun Hf' ex hq => ⟨p, _, rfl, hq, (h2.append h4).mono ex (Pre.refl _)⟩) q
    · cases e
  · cases e
theorem opq_addT : OpQ X (binaryOp .Add) gAddT := by
  refine ⟨_, op_catA, fun a b x y H Hf ρ S Q d hr wa wb e q => ?_⟩
  unfold gAddT at e
  split at e
  · rename_i i j
    split at e
    · rename_i hc
      cases e
      obtain ⟨l, vs, rfl, h1, h2⟩ := (show Dt X.K Hf ρ (.tup i) x from wa)
      obtain ⟨m, us, rfl, h3, h4⟩ := (show Dt X.K Hf ρ (.tup j) y from wb)
      refine ⟨l, m, vs, us, rfl, rfl, hr.sub.sqT h1, hr.sub.sqT h3, by rw [← h2.length, ← h4.length]; exact hc, fun z => ?_, fun z1 z2 => ?_, fun z1 z2 p hp => ?_⟩
      · subst z
        cases i with
        | nil => exact q _ _ _ _ hr (Tr.refl _ _ _) ⟨m, us, rfl, h3, h4⟩
        | cons c i => have := h2.length; simp at this
      · subst z2
        cases j with
        | nil => exact q _ _ _ _ hr (Tr.refl _ _ _) ⟨l, vs, rfl, h1, by rw [List.append_nil]; exact h2⟩
        | cons c i => have := h4.length; simp at this
      · exact new_ans (d := .tup (i ++ j)) hr hp (fun Hf' ex hq => ⟨p, _, rfl, SqT.of hq, (h2.append h4).mono ex (Pre.refl _)⟩) q
    · cases e
  · cases e
theorem opq_add : OpQ X (binaryOp .Add) gAdd := by
  have h1 : OpQ X (binaryOp .Add) (iOp (fun _ _ => true) fun i j => .int (i + j)) := opq_int0 op_add fun _ _ _ _ => rfl
  refine OpQ.orI (OpQ.orI h1 opq_addS (G := fun a b => match a, b with | .int i, .int j => some (.int (i + j)) | .str i, .str j => if i.length + j.length ≤ sizeLine then some (.str (i ++ j)) else none | _, _ => none) ?_)
    (OpQ.orI opq_addT opq_addL (G := fun a b => match a, b with | .tup i, .tup j => if i.length + j.length ≤ sizeLine then some (.tup (i ++ j)) else none | .lst i, .lst j => if i.length + j.length ≤ sizeLine then some (.lst (i ++ j)) else none | _, _ => none) ?_) ?_
  · intro a b d e
    cases a <;> cases b <;> simp_all [iOp, gAddS]
  · intro a b d e
    cases a <;> cases b <;> simp_all [gAddT, gAddL]
  · intro a b d e
    cases a <;> cases b <;> simp_all [gAdd]
end
/-! ### -, *, //, %, **, <<, & -/
def gSub : D → D → Option D := iOp (fun _ _ => true) fun i j => .int (i - j)
/-- the sizes that * takes -/
def mulOk (i j : Int) : Bool := decide (i.natAbs < 2 ^ 64) || decide (j.natAbs < 2 ^ 64) || decide (i.natAbs.log2 + j.natAbs.log2 < 1000000)
def gMulI : D → D → Option D := iOp mulOk fun i j => .int (i * j)
def gMul : D → D → Option D
  | .int i, .int j => if mulOk i j = true then some (.int (i * j)) else none
  | .lst l, .int k => if decide (k < 2 ^ 63) && decide (-(2 ^ 63) ≤ k) && decide (l.length * k.toNat ≤ sizeLine) then some (.lst (List.replicate k.toNat l).flatten) else none
  | _, _ => none
def gDiv : D → D → Option D := iOp (fun _ j => decide (0 < j) && decide (j.natAbs.log2 < 9000)) fun i j => .int (i / j)
def gMod : D → D → Option D := iOp (fun _ j => decide (0 < j)) fun i j => .int (i % j)
def gPow : D → D → Option D := iOp (fun i j => decide (0 ≤ j) && decide (j ≤ 1000000) && decide (i.natAbs < 2 ^ 64)) fun i j => .int (i ^ j.toNat)
def gShl : D → D → Option D := iOp (fun i j => decide (0 ≤ j) && decide (j ≤ 1000000) && decide (i.natAbs < 2 ^ 64)) fun i j => .int (i * 2 ^ j.toNat)
def gShr : D → D → Option D := iOp (fun _ j => decide (0 ≤ j)) fun i j => .int (i / 2 ^ j.toNat)
def gAnd : D → D → Option D := iOp (fun _ _ => true) fun i j => .int (Builtin.bitAnd i j)
section
variable {X : Cx}
theorem opq_sub : OpQ X (binaryOp .Sub) gSub := opq_int0 op_sub fun _ _ _ _ => rfl
theorem opq_mulI : OpQ X (binaryOp .Mult) gMulI := by
  have h : OpR X (binaryOp .Mult) (rI (fun i j => CMul i j ∨ CMulW i j) fun i j => .int (i * j)) := by
    intro pins s σ H x y v u Q I rx ry h
    obtain ⟨i, j, e1, e2, hc | hc, q⟩ := h
    · exact op_mul pins s σ H x y v u Q I rx ry ⟨i, j, e1, e2, hc, q⟩
    · exact op_mulW pins s σ H x y v u Q I rx ry ⟨i, j, e1, e2, hc, q⟩
  refine opq_int h (fun i j e => ?_) fun _ _ _ _ => rfl
  unfold mulOk at e
  simp only [Bool.or_eq_true, decide_eq_true_eq] at e
  rcases e with (e | e) | e
  · exact .inl (.inl (by omega))
  · exact .inl (.inr (by omega))
  · exact .inr e
theorem Dts.rep {K : PySem.W.Frag} {Hf : Hp} {ρ : List Addr} {l : List D} {vs : List V} (h : Dts K Hf ρ l vs) : ∀ k : Nat, Dts K Hf ρ (List.replicate k l).flatten (List.replicate k vs).flatten
  | 0 => by simp [Dts]
  | k + 1 => by
    rw [List.replicate_succ, List.replicate_succ, List.flatten_cons, List.flatten_cons]
    exact h.append (Dts.rep h k)
def gRep : D → D → Option D
  | .lst l, .int k => if decide (k < 2 ^ 63) && decide (-(2 ^ 63) ≤ k) && decide (l.length * k.toNat ≤ sizeLine) then some (.lst (List.replicate k.toNat l).flatten) else none
  | _, _ => none
theorem opq_rep : OpQ X (binaryOp .Mult) gRep := by
  refine ⟨_, op_rep, fun a b x y H Hf ρ S Q d hr wa wb e q => ?_⟩
  unfold gRep at e
  split at e
  · rename_i l k
    split at e
    · rename_i hc
      simp only [Bool.and_eq_true, decide_eq_true_eq] at hc
      cases e
      obtain ⟨z, vs, rfl, _, h1, h2⟩ := wa
      have wb : y = .int k := wb
      refine ⟨z, k, vs, rfl, wb, h1, hc.1.2, hc.1.1, by rw [← h2.length]; exact hc.2, fun p hp => ?_⟩
      exact new_ans (d := .lst (List.replicate k.toNat l).flatten) hr hp (fun Hf' ex hq => ⟨p, _, rfl, hq, (h2.rep _).mono ex (Pre.refl _)⟩) q
    · cases e
  · cases e
theorem opq_mul : OpQ X (binaryOp .Mult) gMul := by
  refine OpQ.orI opq_mulI opq_rep ?_
  intro a b d e
  cases a <;> cases b <;> simp_all [gMulI, iOp, gRep, gMul]
theorem opq_div : OpQ X (binaryOp .FloorDiv) gDiv := by
  refine opq_int op_fdivW (fun i j e => ?_) fun _ _ _ _ => rfl
  simp only [Bool.and_eq_true, decide_eq_true_eq] at e
  exact e
theorem opq_mod : OpQ X (binaryOp .Mod) gMod := opq_int op_mod (fun i j e => of_decide_eq_true e) fun _ _ _ _ => rfl
theorem opq_pow : OpQ X (binaryOp .Pow) gPow := by
  refine opq_int op_pow (fun i j e => ?_) fun _ _ _ _ => rfl
  simp only [Bool.and_eq_true, decide_eq_true_eq] at e
  exact ⟨e.1.1, e.1.2, e.2⟩
theorem opq_shl : OpQ X (binaryOp .LShift) gShl := by
  refine opq_int op_shl (fun i j e => ?_) fun _ _ _ _ => rfl
  simp only [Bool.and_eq_true, decide_eq_true_eq] at e
  exact ⟨e.1.1, e.1.2, e.2⟩
theorem opq_shr : OpQ X (binaryOp .RShift) gShr := opq_int op_shr (fun i j e => of_decide_eq_true e) fun _ _ _ _ => rfl
theorem opq_and : OpQ X (binaryOp .BitAnd) gAnd := opq_int0 op_and fun _ _ _ _ => rfl
end
/-! ### comparisons of ints; is None -/
def gLt : D → D → Option D := iOp (fun _ _ => true) fun i j => .bl (decide (i < j))
def gLe : D → D → Option D := iOp (fun _ _ => true) fun i j => .bl (decide (i ≤ j))
def gGt : D → D → Option D := iOp (fun _ _ => true) fun i j => .bl (decide (j < i))
def gGe : D → D → Option D := iOp (fun _ _ => true) fun i j => .bl (decide (j ≤ i))
def gIs : D → D → Option D
  | a, .non => some (.bl (match a with | .non => true | _ => false))
  | _, _ => none
def gIsN : D → D → Option D
  | a, .non => some (.bl (match a with | .non => false | _ => true))
  | _, _ => none
section
variable {X : Cx}
theorem opq_lt : OpQ X (compareOp .Lt) gLt := opq_int0 op_lt fun _ _ _ _ => rfl
theorem opq_le : OpQ X (compareOp .LtE) gLe := opq_int0 op_le fun _ _ _ _ => rfl
theorem opq_gt : OpQ X (compareOp .Gt) gGt := opq_int0 op_gt fun _ _ _ _ => rfl
theorem opq_ge : OpQ X (compareOp .GtE) gGe := opq_int0 op_ge fun _ _ _ _ => rfl
theorem dw_non {K : PySem.W.Frag} {H Hf : Hp} {ρ : List Addr} {a : D} {x : V} (h : Dw K H Hf ρ a x) : decide (x = .non) = (match a with | .non => true | _ => false) := by
  cases a with
  | non => have h : x = .non := h; subst h; rfl
  | bl b => have h : x = .bl b := h; subst h; rfl
  | int b => have h : x = .int b := h; subst h; rfl
  | str b => have h : x = .str b := h; subst h; rfl
  | ref b => have h : x = .ref (He.ga K b) := h; subst h; rfl
  | ty b => have h : x = .ty b := h; subst h; rfl
  | tup b => obtain ⟨p, vs, rfl, _⟩ := (show Dt K Hf ρ (.tup b) x from h); rfl
  | lst b => obtain ⟨p, vs, rfl, _⟩ := h; rfl
  | dct b => obtain ⟨p, vs, rfl, _⟩ := h; rfl
  | hd b => obtain ⟨p, _, rfl⟩ := (show Dt K Hf ρ (.hd b) x from h); rfl
  | scr b => obtain ⟨p, rfl, _⟩ := (show Dt K Hf ρ (.scr b) x from h); rfl
theorem opq_is : OpQ X (compareOp .Is) gIs := by
  refine ⟨_, op_isN, fun a b x y H Hf ρ S Q d hr wa wb e q => ?_⟩
  unfold gIs at e
  split at e
  · cases e
    refine ⟨wb, ?_⟩
    rw [dw_non wa]
    refine q _ _ _ _ hr (Tr.refl _ _ _) ?_
    cases a <;> rfl
  · cases e
theorem opq_isN : OpQ X (compareOp .IsNot) gIsN := by
  refine ⟨_, op_notN, fun a b x y H Hf ρ S Q d hr wa wb e q => ?_⟩
  unfold gIsN at e
  split at e
  · cases e
    refine ⟨wb, ?_⟩
    rw [dw_non wa]
    refine q _ _ _ _ hr (Tr.refl _ _ _) ?_
    cases a <;> rfl
  · cases e
end
end DL

end

section
set_option autoImplicit false
set_option autoImplicit false
namespace DL
open PySem PySem.Spec PyProof.Rows L2

/-! ### tests -/
/-- truth of data -/
def truD : D → Option Bool
  | .non => some false
  | .bl b => some b
  | .int i => some (i != 0)
  | .tup l => some (!l.isEmpty)
  | .lst l => some (!l.isEmpty)
  | .dct _ => none
  | .str s => if s.length ≤ sizeLine then some ((s.length : Int) != 0) else none
  | _ => none
def fTru (f : FE) : FT := fun n E S => (f n E S).bind fun d S1 => match truD d with
  | some b => .ok b S1
  | none => .stk
/-- an expression that gives a bool -/
def fBool (f : FE) : FT := fun n E S => (f n E S).bind fun d S1 => match d with
  | .bl b => .ok b S1
  | _ => .stk
section
variable {K : PySem.W.Frag} {W : WX} {σ : L2.St} {H Hf : Hp} {ρ : List Addr} {Q : Bool → Hp → Prop}
theorem PostE.ofBool {f : FE} {n : Nat} {E : Env} {S : Store} (p : PostT K W σ H Hf ρ Q (fBool f n E S)) : PostE K W σ H Hf ρ (fun x H' => ∃ k, x = .bl k ∧ Q k H') (f n E S) := by
  unfold fBool at p
  cases e : f n E S with
  | stk => rw [e] at p; exact p
  | exc x S1 => rw [e] at p; exact p
  | ok d S1 =>
    rw [e] at p
    cases d <;> try exact p.elim
    rename_i b
    intro v H' Hf' ρ' h1 h2 h3
    exact ⟨b, h3, p H' Hf' ρ' h1 h2⟩
theorem truV_of {S : Store} {d : D} {v : V} {k : Bool} (hr : HR K H Hf ρ S) (w : Dw K H Hf ρ d v) (h : truD d = some k) : TruV K v H k := by
  cases d with
  | non => cases h; have w : v = .non := w; subst w; rfl
  | bl b => have w : v = .bl b := w; subst w; cases h; rfl
  | int b => cases h; have w : v = .int b := w; subst w; rfl
  | str b =>
    have w : v = .str b := w
    subst w
    have h : (if b.length ≤ sizeLine then some ((b.length : Int) != 0) else none) = some k := h
    by_cases hc : b.length ≤ sizeLine
    · rw [if_pos hc] at h
      cases h; exact ⟨hc, rfl⟩
    · rw [if_neg hc] at h; cases h
  | tup l =>
    cases h
    obtain ⟨a, vs, rfl, h1, h2⟩ := (show Dt K Hf ρ (.tup l) v from w)
    refine .inr (.inl ⟨vs, hr.sub.sqT h1, ?_⟩)
    have := h2.length
    cases l <;> cases vs <;> simp_all
  | lst l =>
    cases h
    obtain ⟨a, vs, rfl, _, h1, h2⟩ := w
    refine .inl ⟨vs, SqL.of h1, ?_⟩
    have := h2.length
    cases l <;> cases vs <;> simp_all
  | dct l => cases h
  | ref a => cases h
  | hd a => cases h
  | scr a => cases h
  | ty a => cases h
end
section
variable {X : Cx} {B : Gr} {W : WX} {pos : Pos} {a b c : Expr} {fa fb fc : FE} {ga gb : FT} {rest : List Expr}
theorem t_tru (ha : QR X B W a fa) (he : ∀ whole, isTrue a X.env whole = (do let v ← whole; standAt a.pos; holding [v] (truthy v))) : QT X B W a (fTru fa) := by
  obtain ⟨t, h1, h2⟩ := ha
  refine ⟨_, pt_truth h1 he, fun n E S σ H Hf ρ Q r p => h2 n E S σ H Hf ρ _ r ?_⟩
  unfold fTru at p
  cases e : fa n E S with
  | stk => rw [e] at p; exact p
  | exc x S1 => rw [e] at p; exact p
  | ok d S1 =>
    rw [e] at p
    have p : PostT X.K W σ H Hf ρ Q (match truD d with | some b => .ok b S1 | none => .stk) := p
    cases et : truD d with
    | none => rw [et] at p; exact p.elim
    | some k =>
      rw [et] at p
      intro v H' Hf' ρ' h1 h2 h3
      exact ⟨k, truV_of h1 h3 et, p H' Hf' ρ' h1 h2⟩
/-- a bool as a test (a call, a name) -/
theorem t_val (ha : QE X B W a fa) (he : ∀ whole, isTrue a X.env whole = (do let v ← whole; standAt a.pos; holding [v] (truthy v))) : QT X B W a (fBool fa) := by
  obtain ⟨t, h1, h2⟩ := ha
  exact ⟨_, pt_val h1 he, fun n E S σ H Hf ρ Q r p => h2 n E S σ H Hf ρ _ r (PostE.ofBool p)⟩
theorem t_cmp {op : CmpOp} {g : D → D → Option D} (ho : OpQ X (compareOp op) g) (hm : behindInMarks op b = false) (ha : QR X B W a fa) (hb : QR X B W b fb) : QT X B W (.Compare a [op] [b] pos) (fBool (fOp g fa fb)) := by
  obtain ⟨r, h1, h2⟩ := ho
  obtain ⟨ta, a1, a2⟩ := ha
  obtain ⟨tb, b1, b2⟩ := hb
  exact ⟨_, pt_cmpR h1 a1 b1 hm, fun n E S σ H Hf ρ Q R p => q_two a2 b2 h2 n E S σ H Hf ρ _ R (PostE.ofBool p)⟩

def fNotT (f : FT) : FT := fun n E S => (f n E S).bind fun b S1 => .ok (!b) S1
theorem t_not (ha : QT X B W a ga) : QT X B W (.UnaryOp .Not a pos) (fNotT ga) := by
  obtain ⟨t, h1, h2⟩ := ha
  refine ⟨_, pt_not h1, fun n E S σ H Hf ρ Q r p => h2 n E S σ H Hf ρ _ r ?_⟩
  unfold fNotT at p
  cases e : ga n E S with
  | stk => rw [e] at p; exact p
  | exc x S1 => rw [e] at p; exact p
  | ok d S1 => rw [e] at p; exact fun H' Hf' ρ' h1 h2 => p H' Hf' ρ' h1 h2
def fAndT (f g : FT) : FT := fun n E S => (f n E S).bind fun b S1 => match b with
  | true => g n E S1
  | false => .ok false S1
def fOrT (f g : FT) : FT := fun n E S => (f n E S).bind fun b S1 => match b with
  | true => .ok true S1
  | false => g n E S1
theorem w_and1 (ha : QT X B W a ga) : QW X B W (.BoolOp .And [a] pos) ga := by
  obtain ⟨t, h1, h2⟩ := ha
  exact ⟨_, pw_and1 h1, h2⟩
theorem w_or1 (ha : QT X B W a ga) : QW X B W (.BoolOp .Or [a] pos) ga := by
  obtain ⟨t, h1, h2⟩ := ha
  exact ⟨_, pw_or1 h1, h2⟩
theorem w_and (ha : QT X B W a ga) (hb : QW X B W (.BoolOp .And (b :: rest) pos) gb) : QW X B W (.BoolOp .And (a :: b :: rest) pos) (fAndT ga gb) := by
  obtain ⟨t, h1, h2⟩ := ha
  obtain ⟨u, k1, k2⟩ := hb
  refine ⟨_, pw_and h1 k1, fun n E S σ H Hf ρ Q r p => h2 n E S σ H Hf ρ _ r ?_⟩
  unfold fAndT at p
  cases e : ga n E S with
  | stk => rw [e] at p; exact p
  | exc x S1 => rw [e] at p; exact p
  | ok d S1 =>
    rw [e] at p
    intro H' Hf' ρ' h1 h2
    cases d with
    | false => exact p H' Hf' ρ' h1 h2
    | true =>
      have p : PostT X.K W σ H Hf ρ Q (gb n E S1) := p
      refine k2 n E S1 σ H' Hf' ρ' Q (r.step h1 h2) ?_
      cases e2 : gb n E S1 with
      | stk => rw [e2] at p; exact p
      | exc x S2 => rw [e2] at p; exact PostX.tr h2 p
      | ok d S2 => rw [e2] at p; exact fun H2 Hf2 ρ2 a1 a2 => p H2 Hf2 ρ2 a1 (h2.trans a2)
theorem w_or (ha : QT X B W a ga) (hb : QW X B W (.BoolOp .Or (b :: rest) pos) gb) : QW X B W (.BoolOp .Or (a :: b :: rest) pos) (fOrT ga gb) := by
  obtain ⟨t, h1, h2⟩ := ha
  obtain ⟨u, k1, k2⟩ := hb
  refine ⟨_, pw_or h1 k1, fun n E S σ H Hf ρ Q r p => h2 n E S σ H Hf ρ _ r ?_⟩
  unfold fOrT at p
  cases e : ga n E S with
  | stk => rw [e] at p; exact p
  | exc x S1 => rw [e] at p; exact p
  | ok d S1 =>
    rw [e] at p
    intro H' Hf' ρ' h1 h2
    cases d with
    | true => exact p H' Hf' ρ' h1 h2
    | false =>
      have p : PostT X.K W σ H Hf ρ Q (gb n E S1) := p
      refine k2 n E S1 σ H' Hf' ρ' Q (r.step h1 h2) ?_
      cases e2 : gb n E S1 with
      | stk => rw [e2] at p; exact p
      | exc x S2 => rw [e2] at p; exact PostX.tr h2 p
      | ok d S2 => rw [e2] at p; exact fun H2 Hf2 ρ2 a1 a2 => p H2 Hf2 ρ2 a1 (h2.trans a2)
theorem t_w (h : QW X B W a ga) : QT X B W a ga := by
  obtain ⟨t, h1, h2⟩ := h
  exact ⟨_, h1.pt, h2⟩

/-! ### and, or, not as values; a if t else b; chains -/
def fAnd (f g : FE) : FE := fun n E S => (f n E S).bind fun d S1 => match d with
  | .bl true => g n E S1
  | .bl false => .ok (.bl false) S1
  | _ => .stk
def fOr (f g : FE) : FE := fun n E S => (f n E S).bind fun d S1 => match d with
  | .bl true => .ok (.bl true) S1
  | .bl false => g n E S1
  | _ => .stk
def fNot (f : FE) : FE := fun n E S => (f n E S).bind fun d S1 => match d with
  | .bl b => .ok (.bl (!b)) S1
  | _ => .stk
theorem PostE.tr {K : PySem.W.Frag} {σ : L2.St} {H Hf H' Hf' : Hp} {ρ ρ' : List Addr} {Q : VK} {r : Res D} (t : Tr H Hf ρ H' Hf' ρ') (p : PostE K W σ H Hf ρ Q r) : PostE K W σ H' Hf' ρ' Q r := by
  cases r with
  | stk => exact p
  | exc x S2 => exact PostX.tr t p
  | ok d S2 => exact fun v H2 Hf2 ρ2 a1 a2 a3 => p v H2 Hf2 ρ2 a1 (t.trans a2) a3
theorem PostR.tr {K : PySem.W.Frag} {σ : L2.St} {H Hf H' Hf' : Hp} {ρ ρ' : List Addr} {Q : VK} {r : Res D} (t : Tr H Hf ρ H' Hf' ρ') (p : PostR K W σ H Hf ρ Q r) : PostR K W σ H' Hf' ρ' Q r := by
  cases r with
  | stk => exact p
  | exc x S2 => exact PostX.tr t p
  | ok d S2 => exact fun v H2 Hf2 ρ2 a1 a2 a3 => p v H2 Hf2 ρ2 a1 (t.trans a2) a3
theorem q_one {op : BoolOp} (h : QE X B W a fa) : QE X B W (.BoolOp op [a] pos) fa := by
  obtain ⟨t, h1, h2⟩ := h
  exact ⟨_, pe_one h1, h2⟩
theorem q_and (ha : QE X B W a fa) (hb : QE X B W (.BoolOp .And (b :: rest) pos) fb) : QE X B W (.BoolOp .And (a :: b :: rest) pos) (fAnd fa fb) := by
  obtain ⟨t, h1, h2⟩ := ha
  obtain ⟨u, k1, k2⟩ := hb
  refine ⟨_, pe_and h1 k1, fun n E S σ H Hf ρ Q r p => h2 n E S σ H Hf ρ _ r ?_⟩
  unfold fAnd at p
  cases e : fa n E S with
  | stk => rw [e] at p; exact p
  | exc x S1 => rw [e] at p; exact p
  | ok d S1 =>
    rw [e] at p
    intro v H' Hf' ρ' h1 h2 h3
    cases d <;> try exact p.elim
    rename_i z
    refine ⟨z, h3, ?_⟩
    cases z with
    | false => exact p _ H' Hf' ρ' h1 h2 rfl
    | true => exact k2 n E S1 σ H' Hf' ρ' Q (r.step h1 h2) (PostE.tr h2 p)
theorem q_or (ha : QE X B W a fa) (hb : QE X B W (.BoolOp .Or (b :: rest) pos) fb) : QE X B W (.BoolOp .Or (a :: b :: rest) pos) (fOr fa fb) := by
  obtain ⟨t, h1, h2⟩ := ha
  obtain ⟨u, k1, k2⟩ := hb
  refine ⟨_, pe_or h1 k1, fun n E S σ H Hf ρ Q r p => h2 n E S σ H Hf ρ _ r ?_⟩
  unfold fOr at p
  cases e : fa n E S with
  | stk => rw [e] at p; exact p
  | exc x S1 => rw [e] at p; exact p
  | ok d S1 =>
    rw [e] at p
    intro v H' Hf' ρ' h1 h2 h3
    cases d <;> try exact p.elim
    rename_i z
    refine ⟨z, h3, ?_⟩
    cases z with
    | true => exact p _ H' Hf' ρ' h1 h2 rfl
    | false => exact k2 n E S1 σ H' Hf' ρ' Q (r.step h1 h2) (PostE.tr h2 p)
theorem q_not (ha : QE X B W a fa) : QE X B W (.UnaryOp .Not a pos) (fNot fa) := by
  obtain ⟨t, h1, h2⟩ := ha
  refine ⟨_, pe_not h1, fun n E S σ H Hf ρ Q r p => h2 n E S σ H Hf ρ _ r ?_⟩
  unfold fNot at p
  cases e : fa n E S with
  | stk => rw [e] at p; exact p
  | exc x S1 => rw [e] at p; exact p
  | ok d S1 =>
    rw [e] at p
    intro v H' Hf' ρ' h1 h2 h3
    cases d <;> try exact p.elim
    rename_i z
    exact ⟨z, h3, p _ H' Hf' ρ' h1 h2 rfl⟩
def fIf (c : FT) (f g : FE) : FE := fun n E S => (c n E S).bind fun b S1 => match b with
  | true => f n E S1
  | false => g n E S1
theorem q_if {t : Expr} {gt : FT} (hc : QT X B W t gt) (ha : QE X B W a fa) (hb : QE X B W b fb) : QE X B W (.IfExp t a b pos) (fIf gt fa fb) := by
  obtain ⟨tt, c1, c2⟩ := hc
  obtain ⟨ta, a1, a2⟩ := ha
  obtain ⟨tb, b1, b2⟩ := hb
  refine ⟨_, pe_ifExp c1 a1 b1, fun n E S σ H Hf ρ Q r p => c2 n E S σ H Hf ρ _ r ?_⟩
  unfold fIf at p
  cases e : gt n E S with
  | stk => rw [e] at p; exact p
  | exc x S1 => rw [e] at p; exact p
  | ok d S1 =>
    rw [e] at p
    intro H' Hf' ρ' h1 h2
    cases d with
    | true => exact a2 n E S1 σ H' Hf' ρ' Q (r.step h1 h2) (PostE.tr h2 p)
    | false => exact b2 n E S1 σ H' Hf' ρ' Q (r.step h1 h2) (PostE.tr h2 p)
/-- a op b op' c, of ints alone -/
def fChain (g g' : D → D → Option D) (fa fb fc : FE) : FE := fun n E S => (fa n E S).bind fun a S1 => (fb n E S1).bind fun b S2 => match g a b with
  | some (.bl true) => (fc n E S2).bind fun c S3 => match g' b c with
    | some d => .ok d S3
    | none => .stk
  | some (.bl false) => .ok (.bl false) S2
  | _ => .stk
theorem q_chain_ {op op' : CmpOp} {g g' : D → D → Option D} {r r' : R2} {ta tb tc : TE}
    (h2 : ∀ a b x y H Hf ρ S Q d, HR X.K H Hf ρ S → Dw X.K H Hf ρ a x → Dw X.K H Hf ρ b y → g a b = some d →
      (∀ v H' Hf' ρ', HR X.K H' Hf' ρ' S → Tr H Hf ρ H' Hf' ρ' → Dt X.K Hf' ρ' d v → Q v H') → r x y H Q)
    (h2' : ∀ a b x y H Hf ρ S Q d, HR X.K H Hf ρ S → Dw X.K H Hf ρ a x → Dw X.K H Hf ρ b y → g' a b = some d →
      (∀ v H' Hf' ρ', HR X.K H' Hf' ρ' S → Tr H Hf ρ H' Hf' ρ' → Dt X.K Hf' ρ' d v → Q v H') → r' x y H Q)
    (a2 : ∀ n E S σ H Hf ρ Q, Rel X.K B E S σ H Hf ρ → PostR X.K W σ H Hf ρ Q (fa n E S) → ta σ H Q)
    (b2 : ∀ n E S σ H Hf ρ Q, Rel X.K B E S σ H Hf ρ → PostR X.K W σ H Hf ρ Q (fb n E S) → tb σ H Q)
    (c2 : ∀ n E S σ H Hf ρ Q, Rel X.K B E S σ H Hf ρ → PostR X.K W σ H Hf ρ Q (fc n E S) → tc σ H Q)
    (n : Nat) (E : Env) (S : Store) (σ : L2.St) (H Hf : Hp) (ρ : List Addr) (Q : VK) (R : Rel X.K B E S σ H Hf ρ) (p : PostE X.K W σ H Hf ρ Q (fChain g g' fa fb fc n E S)) : tChain r r' ta tb tc σ H Q := by
  refine a2 n E S σ H Hf ρ _ R ?_
  unfold fChain at p
  cases ea : fa n E S with
  | stk => rw [ea] at p; exact p
  | exc x S1 => rw [ea] at p; exact p
  | ok d1 S1 =>
    rw [ea] at p
    intro x H1 Hf1 ρ1 hr1 t1 w1
    refine b2 n E S1 σ H1 Hf1 ρ1 _ (R.step hr1 t1) ?_
    have p : PostE X.K W σ H Hf ρ Q ((fb n E S1).bind fun b S2 => match g d1 b with
      | some (.bl true) => (fc n E S2).bind fun c S3 => match g' b c with
        | some d => .ok d S3
        | none => .stk
      | some (.bl false) => .ok (.bl false) S2
      | _ => .stk) := p
    cases eb : fb n E S1 with
    | stk => rw [eb] at p; exact p
    | exc x S2 => rw [eb] at p; exact PostX.tr t1 p
    | ok d2 S2 =>
      rw [eb] at p
      intro y H2 Hf2 ρ2 hr2 t2 w2
      have p : PostE X.K W σ H Hf ρ Q (match g d1 d2 with
        | some (.bl true) => (fc n E S2).bind fun c S3 => match g' d2 c with
          | some d => .ok d S3
          | none => .stk
        | some (.bl false) => .ok (.bl false) S2
        | _ => .stk) := p
      cases eg : g d1 d2 with
      | none => rw [eg] at p; exact p.elim
      | some d =>
        rw [eg] at p
        cases d <;> try exact p.elim
        rename_i k
        refine h2 d1 d2 x y H2 Hf2 ρ2 S2 _ _ hr2 (w1.mono t2 hr1) w2 eg fun v H' Hf' ρ' h1 h2 h3 => ?_
        refine ⟨k, h3, ?_⟩
        cases k with
        | false => exact p _ H' Hf' ρ' h1 ((t1.trans t2).trans h2) rfl
        | true =>
          have p : PostE X.K W σ H Hf ρ Q ((fc n E S2).bind fun c S3 => match g' d2 c with
            | some d => .ok d S3
            | none => .stk) := p
          refine c2 n E S2 σ H' Hf' ρ' _ (((R.step hr1 t1).step hr2 t2).step h1 h2) ?_
          cases ec : fc n E S2 with
          | stk => rw [ec] at p; exact p
          | exc x S3 => rw [ec] at p; exact PostX.tr ((t1.trans t2).trans h2) p
          | ok d3 S3 =>
            rw [ec] at p
            intro z H3 Hf3 ρ3 hr3 t3 w3
            have p : PostE X.K W σ H Hf ρ Q (match g' d2 d3 with | some d => .ok d S3 | none => .stk) := p
            cases eg' : g' d2 d3 with
            | none => rw [eg'] at p; exact p.elim
            | some d =>
              rw [eg'] at p
              exact h2' d2 d3 y z H3 Hf3 ρ3 S3 Q d hr3 ((w2.mono h2 hr2).mono t3 h1) w3 eg' fun v H4 Hf4 ρ4 k1 k2 k3 => p v H4 Hf4 ρ4 k1 ((((t1.trans t2).trans h2).trans t3).trans k2) k3
theorem q_chain {op op' : CmpOp} {g g' : D → D → Option D} (ho : OpQ X (compareOp op) g) (ho' : OpQ X (compareOp op') g') (ha : QR X B W a fa) (hb : QR X B W b fb) (hc : QR X B W c fc)
    (hm : lastMarks [op, op'] [b, c] = false) : QE X B W (.Compare a [op, op'] [b, c] pos) (fChain g g' fa fb fc) := by
  obtain ⟨r, h1, h2⟩ := ho
  obtain ⟨r', h1', h2'⟩ := ho'
  obtain ⟨ta, a1, a2⟩ := ha
  obtain ⟨tb, b1, b2⟩ := hb
  obtain ⟨tc, c1, c2⟩ := hc
  exact ⟨_, pe_chain h1 h1' a1 b1 c1 hm, q_chain_ (op := op) (op' := op') h2 h2' a2 b2 c2⟩
theorem t_chain {op op' : CmpOp} {g g' : D → D → Option D} (ho : OpQ X (compareOp op) g) (ho' : OpQ X (compareOp op') g') (ha : QR X B W a fa) (hb : QR X B W b fb) (hc : QR X B W c fc)
    (hm : lastMarks [op, op'] [b, c] = false) : QT X B W (.Compare a [op, op'] [b, c] pos) (fBool (fChain g g' fa fb fc)) := by
  obtain ⟨r, h1, h2⟩ := ho
  obtain ⟨r', h1', h2'⟩ := ho'
  obtain ⟨ta, a1, a2⟩ := ha
  obtain ⟨tb, b1, b2⟩ := hb
  obtain ⟨tc, c1, c2⟩ := hc
  exact ⟨_, pt_chain h1 h1' a1 b1 c1 hm, fun n E S σ H Hf ρ Q R p => q_chain_ (op := op) (op' := op') h2 h2' a2 b2 c2 n E S σ H Hf ρ _ R (PostE.ofBool p)⟩
end
end DL

end

section
set_option autoImplicit false
set_option autoImplicit false
namespace DL
open PySem PySem.Spec PyProof.Rows L2

/-! ### arguments -/
def fNil : FA := fun _ _ S => .ok [] S
def fCons (f : FE) (g : FA) : FA := fun n E S => (f n E S).bind fun d S1 => (g n E S1).bind fun ds S2 => .ok (d :: ds) S2
section
variable {X : Cx} {B : Gr} {W : WX} {pos : Pos} {e : Expr} {es : List Expr} {f : FE} {g : FA}
theorem a_nil : QA X B W [] fNil := ⟨_, pa_nil, fun n E S σ H Hf ρ Q r p => p _ _ _ _ r.hr (Tr.refl _ _ _) rfl⟩
theorem ar_nil : QAr X B W [] fNil := ⟨_, pa_nil, fun n E S σ H Hf ρ Q r p => p _ _ _ _ r.hr (Tr.refl _ _ _) rfl⟩
theorem a_cons (ha : QE X B W e f) (hr : QA X B W es g) (hs : starEach (e :: es) X.env = (false, eval e X.env) :: starEach es X.env) : QA X B W (e :: es) (fCons f g) := by
  obtain ⟨t, h1, h2⟩ := ha
  obtain ⟨u, k1, k2⟩ := hr
  refine ⟨_, pa_cons h1 k1 hs, fun n E S σ H Hf ρ Q r p => h2 n E S σ H Hf ρ _ r ?_⟩
  unfold fCons at p
  cases e1 : f n E S with
  | stk => rw [e1] at p; exact p
  | exc x S1 => rw [e1] at p; exact p
  | ok d S1 =>
    rw [e1] at p
    intro v H1 Hf1 ρ1 hr1 t1 w1
    refine k2 n E S1 σ H1 Hf1 ρ1 _ (r.step hr1 t1) ?_
    have p : PostA X.K W σ H Hf ρ Q ((g n E S1).bind fun ds S2 => .ok (d :: ds) S2) := p
    cases e2 : g n E S1 with
    | stk => rw [e2] at p; exact p
    | exc x S2 => rw [e2] at p; exact PostX.tr t1 p
    | ok ds S2 =>
      rw [e2] at p
      intro vs H2 Hf2 ρ2 hr2 t2 w2
      exact p _ _ _ _ hr2 (t1.trans t2) ⟨v, vs, rfl, w1.mono t2.hf t2.pre, w2⟩
theorem ar_cons (ha : QR X B W e f) (hr : QAr X B W es g) (hs : starEach (e :: es) X.env = (false, eval e X.env) :: starEach es X.env) : QAr X B W (e :: es) (fCons f g) := by
  obtain ⟨t, h1, h2⟩ := ha
  obtain ⟨u, k1, k2⟩ := hr
  refine ⟨_, pa_cons h1 k1 hs, fun n E S σ H Hf ρ Q r p => h2 n E S σ H Hf ρ _ r ?_⟩
  unfold fCons at p
  cases e1 : f n E S with
  | stk => rw [e1] at p; exact p
  | exc x S1 => rw [e1] at p; exact p
  | ok d S1 =>
    rw [e1] at p
    intro v H1 Hf1 ρ1 hr1 t1 w1
    refine k2 n E S1 σ H1 Hf1 ρ1 _ (r.step hr1 t1) ?_
    have p : PostAr X.K W σ H Hf ρ Q ((g n E S1).bind fun ds S2 => .ok (d :: ds) S2) := p
    cases e2 : g n E S1 with
    | stk => rw [e2] at p; exact p
    | exc x S2 => rw [e2] at p; exact PostX.tr t1 p
    | ok ds S2 =>
      rw [e2] at p
      intro vs H2 Hf2 ρ2 hr2 t2 w2
      exact p _ _ _ _ hr2 (t1.trans t2) ⟨v, vs, rfl, w1.mono t2 hr1, w2⟩
end

/-! ### displays -/
def fTup (g : FA) : FE := fun n E S => (g n E S).bind fun ds S1 => if ds.length ≤ 1000 then .ok (.tup ds) S1 else .stk
def fLst (g : FA) : FE := fun n E S => (g n E S).bind fun ds S1 => if ds.length ≤ 1000 then .ok (.lst ds) S1 else .stk
theorem le_line {n : Nat} (h : n ≤ 1000) : n ≤ sizeLine := Nat.le_trans h (by decide)
section
variable {X : Cx} {B : Gr} {W : WX} {pos : Pos} {es : List Expr} {g : FA}
theorem q_tup {k : Nat} (h : QA X B W es g) : QE X B W (.Tuple es k pos) (fTup g) := by
  obtain ⟨t, h1, h2⟩ := h
  refine ⟨_, pe_tup h1, fun n E S σ H Hf ρ Q r p => h2 n E S σ H Hf ρ _ r ?_⟩
  unfold fTup at p
  cases e1 : g n E S with
  | stk => rw [e1] at p; exact p
  | exc x S1 => rw [e1] at p; exact p
  | ok ds S1 =>
    rw [e1] at p
    have p : PostE X.K W σ H Hf ρ Q (if ds.length ≤ 1000 then .ok (.tup ds) S1 else .stk) := p
    by_cases hl : ds.length ≤ 1000
    · rw [if_pos hl] at p
      intro vs H1 Hf1 ρ1 hr1 t1 w1
      refine ⟨le_line (by rw [← w1.length]; exact hl), fun q hq => ?_⟩
      exact new_ans (d := .tup ds) hr1 hq (fun Hf' ex hq' => ⟨q, _, rfl, SqT.of hq', w1.mono ex (Pre.refl _)⟩) fun v H' Hf' ρ' a b c => p v H' Hf' ρ' a (t1.trans b) c
    · rw [if_neg hl] at p; exact p.elim
theorem f_lst (h : QA X B W es g) : QF X B W (.List es pos) (fLst g) := by
  obtain ⟨t, h1, h2⟩ := h
  refine ⟨_, pe_lst h1, fun n E S σ H Hf ρ Q r p => h2 n E S σ H Hf ρ _ r ?_⟩
  unfold fLst at p
  cases e1 : g n E S with
  | stk => rw [e1] at p; exact p
  | exc x S1 => rw [e1] at p; exact p
  | ok ds S1 =>
    rw [e1] at p
    have p : PostF X.K W σ H Hf ρ Q (if ds.length ≤ 1000 then .ok (.lst ds) S1 else .stk) := p
    by_cases hl : ds.length ≤ 1000
    · rw [if_pos hl] at p
      intro vs H1 Hf1 ρ1 hr1 t1 w1
      refine ⟨le_line (by rw [← w1.length]; exact hl), fun q hq => ?_⟩
      have nH : H q = none := by
        cases z : H q with
        | none => rfl
        | some o => exact absurd hq (t1.alive q (by rw [z]; simp))
      exact p q _ Hf1 ρ1 (hr1.own (hr1.hnone hq) (hr1.notin hq)) (t1.trans (Tr.own hq)) nH (hr1.hnone hq) (hr1.notin hq) ⟨vs, upd_same, w1⟩
    · rw [if_neg hl] at p; exact p.elim
end

/-! ### calls of defs -/
def PostM (K : PySem.W.Frag) (H Hf : Hp) (ρ : List Addr) (Q : VK) (Ex : XK) : Res D → Prop
  | .ok d S' => ∀ v H' Hf' ρ', HR K H' Hf' ρ' S' → Tr H Hf ρ H' Hf' ρ' → Dt K Hf' ρ' d v → Q v H'
  | .exc x S' => ∀ c od H' Hf' ρ', HR K H' Hf' ρ' S' → Tr H Hf ρ H' Hf' ρ' → ExcAt K Hf' ρ' H' x c od → Ex c od H'
  | .stk => False
/-- a def's promise, by what it makes of data -/
def spD (K : PySem.W.Frag) (np : Nat) (m : MF) : Sp := fun vs H Q Ex => ∃ ds S Hf ρ, ds.length = np ∧ HR K H Hf ρ S ∧ Dts K Hf ρ ds vs ∧ PostM K H Hf ρ Q Ex (m ds S)
/-- the def that stands at f makes m of its arguments -/
structure FnD (P : Program) (w : World) (K : PySem.W.Frag) (mg : Str → Option Value) (base : Heap) (k : Nat) (f : Addr) (np : Nat) (m : MF) : Prop where
  ex : ∃ fd ps, ps.length = np ∧ FnOk P w K mg base (L2N.CX P w) k f fd ps (spD K np m) ∧ PySem.W.keepIn K (.ref f) = true ∧ Binds K fd ps []
/-- the module's name x -/
structure Callee (X : Cx) (x : Str) (k : Nat) (np : Nat) (m : MF) : Prop where
  gl : Gl X x
  db : (x == ("__debug__" : Str)) = false
  ex : ∃ f, X.mg x = some (.ref f) ∧ FnD X.prog X.w X.K X.mg X.base k f np m
def fCall (m : MF) (g : FA) : FE := fun n E S => (g n E S).bind fun ds S1 => m ds S1
section
variable {X : Cx} {B : Gr} {W : WX} {pos p1 : Pos} {e : Expr} {es : List Expr} {g : FA} {x : Str} {k np : Nat} {m : MF}
theorem q_call (c : Callee X x k np m) (hr : Room k X.A) (tk : L2N.Takes X W) (ha : QA X B W (e :: es) g) (hl : ∀ n E S ds S', g n E S = .ok ds S' → ds.length = np)
    (he : starEach (e :: es) X.env = (false, eval e X.env) :: starEach es X.env) (hpl : (backTo pos (starEach es X.env)).any (·.1) = false) : QE X B W (.Call (.Name x p1) (e :: es) [] pos) (fCall m g) := by
  obtain ⟨f, hm, ⟨fd, ps, hps, F, hk, hb⟩⟩ := c.ex
  obtain ⟨t, h1, h2⟩ := ha
  refine ⟨_, pe_callS F hr c.gl hm hk hb (fun σ => L2N.passAt tk σ) h1 c.db he hpl, fun n E S σ H Hf ρ Q r p => h2 n E S σ H Hf ρ _ r ?_⟩
  unfold fCall at p
  cases e1 : g n E S with
  | stk => rw [e1] at p; exact p
  | exc y S1 => rw [e1] at p; exact p
  | ok ds S1 =>
    rw [e1] at p
    intro vs H1 Hf1 ρ1 hr1 t1 w1
    refine ⟨ds, S1, Hf1, ρ1, hl n E S ds S1 e1, hr1, w1, ?_⟩
    have p : PostE X.K W σ H Hf ρ Q (m ds S1) := p
    cases e2 : m ds S1 with
    | stk => rw [e2] at p; exact p
    | exc y S2 => rw [e2] at p; exact fun c od H' Hf' ρ' a b d => p c od H' Hf' ρ' a (t1.trans b) d
    | ok d S2 => rw [e2] at p; exact fun v H' Hf' ρ' a b d => p v H' Hf' ρ' a (t1.trans b) d
end
/-- how many a written list of arguments gives -/
structure Len (g : FA) (k : Nat) : Prop where
  len : ∀ n E S ds S', g n E S = .ok ds S' → ds.length = k
theorem len_nil : Len fNil 0 := ⟨fun n E S ds S' h => by cases h; rfl⟩
theorem len_cons {f : FE} {g : FA} {k : Nat} (h : Len g k) : Len (fCons f g) (k + 1) := ⟨fun n E S ds S' e => by
  unfold fCons at e
  cases e1 : f n E S with
  | stk => rw [e1] at e; cases e
  | exc y S1 => rw [e1] at e; cases e
  | ok d S1 =>
    rw [e1] at e
    have e : ((g n E S1).bind fun ds S2 => Res.ok (d :: ds) S2) = .ok ds S' := e
    cases e2 : g n E S1 with
    | stk => rw [e2] at e; cases e
    | exc y S1 => rw [e2] at e; cases e
    | ok es S2 =>
      rw [e2] at e
      cases e
      rw [List.length_cons, h.len _ _ _ _ _ e2]⟩

/-! ### calls of what is built in -/
def CallQ (X : Cx) (f : Value) (g : List D → Option D) : Prop := ∃ r, CallR X f r ∧
  ∀ ds vs H Hf ρ S Q d, HR X.K H Hf ρ S → Dws X.K H Hf ρ ds vs → g ds = some d →
    (∀ v H' Hf' ρ', HR X.K H' Hf' ρ' S → Tr H Hf ρ H' Hf' ρ' → Dt X.K Hf' ρ' d v → Q v H') → r vs H Q
def fCB (m : List D → Option D) (g : FA) : FE := fun n E S => (g n E S).bind fun ds S1 => match m ds with
  | some d => .ok d S1
  | none => .stk
/-- the built-in name x -/
structure Blt (X : Cx) (x : Str) : Prop where
  gl : Gl X x
  free : X.mg x = none
section
variable {X : Cx} {B : Gr} {W : WX} {pos p1 : Pos} {e : Expr} {es : List Expr} {g : FA} {x : Str} {m : List D → Option D}
theorem cb_post {r : List V → Hp → VK → Prop} {t : TA} (h2 : ∀ ds vs H Hf ρ S Q d, HR X.K H Hf ρ S → Dws X.K H Hf ρ ds vs → m ds = some d →
    (∀ v H' Hf' ρ', HR X.K H' Hf' ρ' S → Tr H Hf ρ H' Hf' ρ' → Dt X.K Hf' ρ' d v → Q v H') → r vs H Q)
    (k2 : ∀ n E S σ H Hf ρ Q, Rel X.K B E S σ H Hf ρ → PostAr X.K W σ H Hf ρ Q (g n E S) → t σ H Q)
    (n : Nat) (E : Env) (S : Store) (σ : L2.St) (H Hf : Hp) (ρ : List Addr) (Q : VK) (R : Rel X.K B E S σ H Hf ρ) (p : PostE X.K W σ H Hf ρ Q (fCB m g n E S)) : tCB r t σ H Q := by
  refine k2 n E S σ H Hf ρ _ R ?_
  unfold fCB at p
  cases e1 : g n E S with
  | stk => rw [e1] at p; exact p
  | exc y S1 => rw [e1] at p; exact p
  | ok ds S1 =>
    rw [e1] at p
    intro vs H1 Hf1 ρ1 hr1 t1 w1
    have p : PostE X.K W σ H Hf ρ Q (match m ds with | some d => .ok d S1 | none => .stk) := p
    cases e2 : m ds with
    | none => rw [e2] at p; exact p.elim
    | some d =>
      rw [e2] at p
      exact h2 ds vs H1 Hf1 ρ1 S1 Q d hr1 w1 e2 fun v H' Hf' ρ' a b c => p v H' Hf' ρ' a (t1.trans b) c
theorem q_cb {id : String} (hc : CallQ X (.builtin id) m) (hb : Blt X x) (hv : bootBuiltins x = some (.builtin id)) (hn : x ≠ "__name__") (hdb : (x == ("__debug__" : Str)) = false) (ha : QAr X B W (e :: es) g)
    (he : starEach (e :: es) X.env = (false, eval e X.env) :: starEach es X.env) (hpl : (backTo pos (starEach es X.env)).any (·.1) = false) : QE X B W (.Call (.Name x p1) (e :: es) [] pos) (fCB m g) := by
  obtain ⟨r, h1, h2⟩ := hc
  obtain ⟨t, k1, k2⟩ := ha
  exact ⟨_, pe_callB h1 hb.gl hb.free hv k1 hn hdb he hpl, cb_post h2 k2⟩
theorem q_ct {T : String} (hc : CallQ X (.type T) m) (hb : Blt X x) (hv : bootBuiltins x = some (.type T)) (hn : x ≠ "__name__") (hdb : (x == ("__debug__" : Str)) = false) (ha : QAr X B W (e :: es) g)
    (he : starEach (e :: es) X.env = (false, eval e X.env) :: starEach es X.env) (hpl : (backTo pos (starEach es X.env)).any (·.1) = false) : QE X B W (.Call (.Name x p1) (e :: es) [] pos) (fCB m g) := by
  obtain ⟨r, h1, h2⟩ := hc
  obtain ⟨t, k1, k2⟩ := ha
  exact ⟨_, pe_callTy h1 hb.gl hb.free hv k1 hn hdb he hpl, cb_post h2 k2⟩
/-- a type's name as a value -/
theorem q_ty {T : String} (hb : Blt X x) (hv : bootBuiltins x = some (.type T)) (hn : x ≠ "__name__") (hdb : (x == ("__debug__" : Str)) = false) : QE X B W (.Name x pos) (fC (.ty T)) :=
  ⟨_, pe_bltn (v := .ty T) hb.gl hb.free hv rfl hn hdb, fun n E S σ H Hf ρ Q r p => p _ _ _ _ r.hr (Tr.refl _ _ _) rfl⟩
end

/-! ### the built-ins -/
section
variable {K : PySem.W.Frag} {H Hf : Hp} {ρ : List Addr} {vs : List V} {a b : D}
theorem dws1 (h : Dws K H Hf ρ [a] vs) : ∃ x, vs = [x] ∧ Dw K H Hf ρ a x := by
  obtain ⟨v, r, rfl, h1, h2⟩ := h
  cases h2
  exact ⟨v, rfl, h1⟩
theorem dws2 (h : Dws K H Hf ρ [a, b] vs) : ∃ x y, vs = [x, y] ∧ Dw K H Hf ρ a x ∧ Dw K H Hf ρ b y := by
  obtain ⟨v, r, rfl, h1, h2⟩ := h
  obtain ⟨y, rfl, h3⟩ := dws1 h2
  exact ⟨v, y, rfl, h1, h3⟩
end
def gAbs : List D → Option D
  | [.int i] => some (.int (if i < 0 then -i else i))
  | _ => none
def gMax2 : List D → Option D
  | [.int i, .int j] => some (.int (if j > i then j else i))
  | _ => none
def gMin2 : List D → Option D
  | [.int i, .int j] => some (.int (if j < i then j else i))
  | _ => none
def gInt : List D → Option D
  | [.int i] => some (.int i)
  | [.bl b] => some (.int (if b then 1 else 0))
  | _ => none
def gLen : List D → Option D
  | [.lst l] => some (.int l.length)
  | [.tup l] => some (.int l.length)
  | [.str s] => if s.length ≤ sizeLine then some (.int s.length) else none
  | _ => none
def gSum : List D → Option D
  | [.lst l] => (ints? l).map fun ns => .int ns.sum
  | _ => none
def gAny : List D → Option D
  | [.lst l] => (bls? l).map fun ns => .bl (ns.any id)
  | _ => none
def gAll : List D → Option D
  | [.lst l] => (bls? l).map fun ns => .bl (ns.all id)
  | _ => none
/-- the least, the greatest of some ints -/
def minI : List Int → Int
  | [] => 0
  | [a] => a
  | a :: l => if a ≤ minI l then a else minI l
def maxI : List Int → Int
  | [] => 0
  | [a] => a
  | a :: l => if maxI l ≤ a then a else maxI l
theorem minI_spec : ∀ l : List Int, l ≠ [] → minI l ∈ l ∧ ∀ y ∈ l, minI l ≤ y
  | [], h => absurd rfl h
  | [a], _ => by simp [minI]
  | a :: b :: l, _ => by
    obtain ⟨h1, h2⟩ := minI_spec (b :: l) (by simp)
    by_cases z : a ≤ minI (b :: l)
    · have e : minI (a :: b :: l) = a := by unfold minI; rw [if_pos z]
      rw [e]
      refine ⟨by simp, fun y hy => ?_⟩
      rcases List.mem_cons.mp hy with rfl | hy
      · exact Int.le_refl _
      · exact Int.le_trans z (h2 y hy)
    · have e : minI (a :: b :: l) = minI (b :: l) := by rw [minI]; rw [if_neg z]; simp
      rw [e]
      refine ⟨List.mem_cons_of_mem _ h1, fun y hy => ?_⟩
      rcases List.mem_cons.mp hy with rfl | hy
      · omega
      · exact h2 y hy
theorem maxI_spec : ∀ l : List Int, l ≠ [] → maxI l ∈ l ∧ ∀ y ∈ l, y ≤ maxI l
  | [], h => absurd rfl h
  | [a], _ => by simp [maxI]
  | a :: b :: l, _ => by
    obtain ⟨h1, h2⟩ := maxI_spec (b :: l) (by simp)
    by_cases z : maxI (b :: l) ≤ a
    · have e : maxI (a :: b :: l) = a := by unfold maxI; rw [if_pos z]
      rw [e]
      refine ⟨by simp, fun y hy => ?_⟩
      rcases List.mem_cons.mp hy with rfl | hy
      · exact Int.le_refl _
      · exact Int.le_trans (h2 y hy) z
    · have e : maxI (a :: b :: l) = maxI (b :: l) := by rw [maxI]; rw [if_neg z]; simp
      rw [e]
      refine ⟨List.mem_cons_of_mem _ h1, fun y hy => ?_⟩
      rcases List.mem_cons.mp hy with rfl | hy
      · omega
      · exact h2 y hy
def gMin : List D → Option D
  | [.lst l] => match ints? l with
    | some (a :: ns) => some (.int (minI (a :: ns)))
    | _ => none
  | _ => none
def gMax : List D → Option D
  | [.lst l] => match ints? l with
    | some (a :: ns) => some (.int (maxI (a :: ns)))
    | _ => none
  | _ => none
/-- ints in order -/
def insI (a : Int) : List Int → List Int
  | [] => [a]
  | b :: l => if a ≤ b then a :: b :: l else b :: insI a l
def sortI : List Int → List Int
  | [] => []
  | a :: l => insI a (sortI l)
theorem insI_perm (a : Int) : ∀ l : List Int, (insI a l).Perm (a :: l)
  | [] => .refl _
  | b :: l => by
    unfold insI
    split
    · exact .refl _
    · exact ((insI_perm a l).cons b).trans (.swap a b l)
theorem sortI_perm : ∀ l : List Int, (sortI l).Perm l
  | [] => .refl _
  | a :: l => (insI_perm a (sortI l)).trans ((sortI_perm l).cons a)
theorem insI_sorted (a : Int) : ∀ l : List Int, l.Pairwise (· ≤ ·) → (insI a l).Pairwise (· ≤ ·)
  | [], _ => by simp [insI]
  | b :: l, h => by
    obtain ⟨h1, h2⟩ := List.pairwise_cons.mp h
    unfold insI
    split
    · rename_i z
      refine List.pairwise_cons.mpr ⟨fun y hy => ?_, h⟩
      rcases List.mem_cons.mp hy with rfl | hy
      · exact z
      · exact Int.le_trans z (h1 y hy)
    · rename_i z
      refine List.pairwise_cons.mpr ⟨fun y hy => ?_, insI_sorted a l h2⟩
      rcases List.mem_cons.mp ((insI_perm a l).mem_iff.mp hy) with rfl | hy
      · omega
      · exact h1 y hy
theorem sortI_sorted : ∀ l : List Int, (sortI l).Pairwise (· ≤ ·)
  | [] => .nil
  | a :: l => insI_sorted a _ (sortI_sorted l)
theorem sortI_eq {l m : List Int} (h : m.Perm l) (hs : m.Pairwise (· ≤ ·)) : m = sortI l :=
  List.Perm.eq_of_pairwise (fun _ _ _ _ a b => Int.le_antisymm a b) hs (sortI_sorted l) (h.trans (sortI_perm l).symm)
def gSorted : List D → Option D
  | [.lst l] => (ints? l).map fun ns => .lst ((sortI ns).map D.int)
  | _ => none
def gList : List D → Option D
  | [.lst l] => some (.lst l)
  | [.tup l] => some (.lst l)
  | [.scr l] => some (.lst (l.map D.int))
  | _ => none
def gTuple : List D → Option D
  | [.lst l] => some (.tup l)
  | [.tup l] => some (.tup l)
  | _ => none
section
variable {X : Cx}
theorem cq_abs : CallQ X (.builtin "abs") gAbs := by
  refine ⟨_, call_abs, fun ds vs H Hf ρ S Q d hr w e q => ?_⟩
  unfold gAbs at e
  split at e
  · rename_i i
    cases e
    obtain ⟨x, rfl, wa⟩ := dws1 w
    have wa : x = .int i := wa
    exact ⟨i, by rw [wa], q _ _ _ _ hr (Tr.refl _ _ _) rfl⟩
  · cases e
theorem cq_max2 (hc : X.calm = true) : CallQ X (.builtin "max") gMax2 := by
  refine ⟨_, call_max2 hc, fun ds vs H Hf ρ S Q d hr w e q => ?_⟩
  unfold gMax2 at e
  split at e
  · rename_i i j
    cases e
    obtain ⟨x, y, rfl, wa, wb⟩ := dws2 w
    have wa : x = .int i := wa
    have wb : y = .int j := wb
    exact ⟨i, j, by rw [wa, wb], q _ _ _ _ hr (Tr.refl _ _ _) rfl⟩
  · cases e
theorem cq_min2 (hc : X.calm = true) : CallQ X (.builtin "min") gMin2 := by
  refine ⟨_, call_min2 hc, fun ds vs H Hf ρ S Q d hr w e q => ?_⟩
  unfold gMin2 at e
  split at e
  · rename_i i j
    cases e
    obtain ⟨x, y, rfl, wa, wb⟩ := dws2 w
    have wa : x = .int i := wa
    have wb : y = .int j := wb
    exact ⟨i, j, by rw [wa, wb], q _ _ _ _ hr (Tr.refl _ _ _) rfl⟩
  · cases e
theorem cq_int : CallQ X (.type "int") gInt := by
  refine ⟨_, call_int1, fun ds vs H Hf ρ S Q d hr w e q => ?_⟩
  unfold gInt at e
  split at e
  · rename_i i
    cases e
    obtain ⟨x, rfl, wa⟩ := dws1 w
    have wa : x = .int i := wa
    exact .inl ⟨i, by rw [wa], q _ _ _ _ hr (Tr.refl _ _ _) rfl⟩
  · rename_i i
    cases e
    obtain ⟨x, rfl, wa⟩ := dws1 w
    have wa : x = .bl i := wa
    exact .inr ⟨i, by rw [wa], q _ _ _ _ hr (Tr.refl _ _ _) rfl⟩
  · cases e
theorem cq_len : CallQ X (.builtin "len") gLen := by
  refine ⟨_, call_len, fun ds vs H Hf ρ S Q d hr w e q => ?_⟩
  unfold gLen at e
  split at e
  · rename_i l
    cases e
    obtain ⟨x, rfl, wa⟩ := dws1 w
    obtain ⟨a, vs, rfl, _, h1, h2⟩ := wa
    exact ⟨_, l.length, rfl, .inl ⟨vs, SqL.of h1, h2.length⟩, q _ _ _ _ hr (Tr.refl _ _ _) rfl⟩
  · rename_i l
    cases e
    obtain ⟨x, rfl, wa⟩ := dws1 w
    obtain ⟨a, vs, rfl, h1, h2⟩ := (show Dt X.K Hf ρ (.tup l) x from wa)
    exact ⟨_, l.length, rfl, .inr ⟨vs, hr.sub.sqT h1, h2.length⟩, q _ _ _ _ hr (Tr.refl _ _ _) rfl⟩
  · rename_i s
    split at e
    · rename_i hc
      cases e
      obtain ⟨x, rfl, wa⟩ := dws1 w
      have wa : x = .str s := wa
      exact ⟨_, s.length, rfl, by rw [wa]; exact ⟨hc, rfl⟩, q _ _ _ _ hr (Tr.refl _ _ _) rfl⟩
    · cases e
  · cases e
theorem dw_ints {H Hf : Hp} {ρ : List Addr} {l : List D} {ns : List Int} {x : V} (w : Dw X.K H Hf ρ (.lst l) x) (h : ints? l = some ns) : ∃ a, x = .ref a ∧ SqL X.K H a (ns.map V.int) := by
  obtain ⟨a, vs, rfl, _, h1, h2⟩ := w
  rw [ints?_eq h] at h2
  rw [h2.ints] at h1
  exact ⟨a, rfl, SqL.of h1⟩
theorem cq_sum (hc : X.calm = true) : CallQ X (.builtin "sum") gSum := by
  refine ⟨_, cr_sum hc, fun ds vs H Hf ρ S Q d hr w e q => ?_⟩
  unfold gSum at e
  split at e
  · rename_i l
    simp only [Option.map_eq_some_iff] at e
    obtain ⟨ns, e1, rfl⟩ := e
    obtain ⟨x, rfl, wa⟩ := dws1 w
    obtain ⟨a, rfl, h⟩ := dw_ints wa e1
    exact ⟨a, ns, rfl, h, q _ _ _ _ hr (Tr.refl _ _ _) rfl⟩
  · cases e
theorem dw_bls {H Hf : Hp} {ρ : List Addr} {l : List D} {ns : List Bool} {x : V} (w : Dw X.K H Hf ρ (.lst l) x) (h : bls? l = some ns) : ∃ a, x = .ref a ∧ SqL X.K H a (ns.map V.bl) := by
  obtain ⟨a, vs, rfl, _, h1, h2⟩ := w
  rw [bls?_eq h] at h2
  rw [h2.bls] at h1
  exact ⟨a, rfl, SqL.of h1⟩
theorem cq_any (hc : X.calm = true) : CallQ X (.builtin "any") gAny := by
  refine ⟨_, cr_any hc, fun ds vs H Hf ρ S Q d hr w e q => ?_⟩
  unfold gAny at e
  split at e
  · rename_i l
    simp only [Option.map_eq_some_iff] at e
    obtain ⟨ns, e1, rfl⟩ := e
    obtain ⟨x, rfl, wa⟩ := dws1 w
    obtain ⟨a, rfl, h⟩ := dw_bls wa e1
    exact ⟨a, ns, rfl, h, q _ _ _ _ hr (Tr.refl _ _ _) rfl⟩
  · cases e
theorem cq_all (hc : X.calm = true) : CallQ X (.builtin "all") gAll := by
  refine ⟨_, cr_all hc, fun ds vs H Hf ρ S Q d hr w e q => ?_⟩
  unfold gAll at e
  split at e
  · rename_i l
    simp only [Option.map_eq_some_iff] at e
    obtain ⟨ns, e1, rfl⟩ := e
    obtain ⟨x, rfl, wa⟩ := dws1 w
    obtain ⟨a, rfl, h⟩ := dw_bls wa e1
    exact ⟨a, ns, rfl, h, q _ _ _ _ hr (Tr.refl _ _ _) rfl⟩
  · cases e
theorem cq_min (hc : X.calm = true) : CallQ X (.builtin "min") gMin := by
  refine ⟨_, cr_min hc, fun ds vs H Hf ρ S Q d hr w e q => ?_⟩
  unfold gMin at e
  split at e
  · rename_i l
    split at e
    · rename_i b ns e1
      cases e
      obtain ⟨x, rfl, wa⟩ := dws1 w
      obtain ⟨a, rfl, h⟩ := dw_ints wa e1
      refine ⟨a, _, rfl, h, by simp, fun m h1 h2 => ?_⟩
      obtain ⟨k1, k2⟩ := minI_spec (b :: ns) (by simp)
      rw [show m = minI (b :: ns) from Int.le_antisymm (h2 _ k1) (k2 _ h1)]
      exact q _ _ _ _ hr (Tr.refl _ _ _) rfl
    · cases e
  · cases e
theorem cq_max (hc : X.calm = true) : CallQ X (.builtin "max") gMax := by
  refine ⟨_, cr_max hc, fun ds vs H Hf ρ S Q d hr w e q => ?_⟩
  unfold gMax at e
  split at e
  · rename_i l
    split at e
    · rename_i b ns e1
      cases e
      obtain ⟨x, rfl, wa⟩ := dws1 w
      obtain ⟨a, rfl, h⟩ := dw_ints wa e1
      refine ⟨a, _, rfl, h, by simp, fun m h1 h2 => ?_⟩
      obtain ⟨k1, k2⟩ := maxI_spec (b :: ns) (by simp)
      rw [show m = maxI (b :: ns) from Int.le_antisymm (k2 _ h1) (h2 _ k1)]
      exact q _ _ _ _ hr (Tr.refl _ _ _) rfl
    · cases e
  · cases e
theorem cq_sorted : CallQ X (.builtin "sorted") gSorted := by
  refine ⟨_, cr_sortedI, fun ds vs H Hf ρ S Q d hr w e q => ?_⟩
  unfold gSorted at e
  split at e
  · rename_i l
    simp only [Option.map_eq_some_iff] at e
    obtain ⟨ns, e1, rfl⟩ := e
    obtain ⟨x, rfl, wa⟩ := dws1 w
    obtain ⟨a, rfl, h⟩ := dw_ints wa e1
    refine ⟨a, ns, rfl, h, fun ns' p hp hs hn => ?_⟩
    rw [sortI_eq hp hs]
    exact new_ans (d := .lst ((sortI ns).map D.int)) hr hn (fun Hf' ex hq => ⟨p, _, rfl, hq, Dts.ofInts _⟩) q
  · cases e
theorem cq_list : CallQ X (.type "list") gList := by
  refine ⟨_, call_list_of, fun ds vs H Hf ρ S Q d hr w e q => ?_⟩
  unfold gList at e
  split at e
  · rename_i l
    cases e
    obtain ⟨x, rfl, wa⟩ := dws1 w
    obtain ⟨a, vs, rfl, _, h1, h2⟩ := wa
    refine ⟨a, vs, rfl, .inl (SqL.of h1), fun p hp => ?_⟩
    exact new_ans (d := .lst l) hr hp (fun Hf' ex hq => ⟨p, _, rfl, hq, h2.mono ex (Pre.refl _)⟩) q
  · rename_i l
    cases e
    obtain ⟨x, rfl, wa⟩ := dws1 w
    obtain ⟨a, vs, rfl, h1, h2⟩ := (show Dt X.K Hf ρ (.tup l) x from wa)
    refine ⟨a, vs, rfl, .inr (hr.sub.sqT h1), fun p hp => ?_⟩
    exact new_ans (d := .lst l) hr hp (fun Hf' ex hq => ⟨p, _, rfl, hq, h2.mono ex (Pre.refl _)⟩) q
  · rename_i l
    cases e
    obtain ⟨x, rfl, wa⟩ := dws1 w
    obtain ⟨a, rfl, h1⟩ := (show Dt X.K Hf ρ (.scr l) x from wa)
    refine ⟨a, _, rfl, .inl (hr.sub.sqL h1), fun p hp => ?_⟩
    exact new_ans (d := .lst (l.map D.int)) hr hp (fun Hf' ex hq => ⟨p, _, rfl, hq, Dts.ofInts _⟩) q
  · cases e
theorem cq_tuple : CallQ X (.type "tuple") gTuple := by
  refine ⟨_, call_tuple_of, fun ds vs H Hf ρ S Q d hr w e q => ?_⟩
  unfold gTuple at e
  split at e
  · rename_i l
    cases e
    obtain ⟨x, rfl, wa⟩ := dws1 w
    obtain ⟨a, vs, rfl, _, h1, h2⟩ := wa
    refine ⟨a, vs, rfl, .inl ⟨SqL.of h1, fun p hp => ?_⟩⟩
    exact new_ans (d := .tup l) hr hp (fun Hf' ex hq => ⟨p, _, rfl, SqT.of hq, h2.mono ex (Pre.refl _)⟩) q
  · rename_i l
    cases e
    obtain ⟨x, rfl, wa⟩ := dws1 w
    obtain ⟨a, vs, rfl, h1, h2⟩ := (show Dt X.K Hf ρ (.tup l) x from wa)
    exact ⟨a, vs, rfl, .inr ⟨hr.sub.sqT h1, q _ _ _ _ hr (Tr.refl _ _ _) ⟨a, vs, rfl, h1, h2⟩⟩⟩
  · cases e
end
/-! ### isinstance with a built-in type -/
def tyName : D → Option String
  | .non => some "NoneType"
  | .bl _ => some "bool"
  | .int _ => some "int"
  | .str _ => some "str"
  | .tup _ => some "tuple"
  | .lst _ => some "list"
  | .dct _ => some "dict"
  | _ => none
/-- whether the type named a is one of the type named b -/
def isTy (a b : String) : Option Bool :=
  if b = "int" then some (a == "int" || a == "bool") else if b = "bool" then some (a == "bool") else if b = "str" then some (a == "str") else if b = "tuple" then some (a == "tuple") else if b = "list" then some (a == "list") else none
def gIsi : List D → Option D
  | [d, .ty b] => match tyName d with
    | some a => (isTy a b).map D.bl
    | none => none
  | _ => none
theorem kit_all : (["NoneType", "bool", "int", "str", "tuple", "list", "dict"].all fun a => ["int", "bool", "str", "tuple", "list"].all fun b => decide (kitB a b = isTy a b)) = true := by decide +kernel
theorem isTy_b {a b : String} {r : Bool} (h : isTy a b = some r) : b ∈ ["int", "bool", "str", "tuple", "list"] := by
  unfold isTy at h
  split at h
  · rename_i e; rw [e]; simp
  · split at h
    · rename_i e; rw [e]; simp
    · split at h
      · rename_i e; rw [e]; simp
      · split at h
        · rename_i e; rw [e]; simp
        · split at h
          · rename_i e; rw [e]; simp
          · cases h
theorem tyName_a {d : D} {a : String} (h : tyName d = some a) : a ∈ ["NoneType", "bool", "int", "str", "tuple", "list", "dict"] := by
  cases d <;> cases h <;> simp
theorem dw_ty {K : PySem.W.Frag} {H Hf : Hp} {ρ : List Addr} {S : Store} {d : D} {x : V} {a : String} (hr : HR K H Hf ρ S) (w : Dw K H Hf ρ d x) (h : tyName d = some a) : TyX K H x (.type a) := by
  cases d with
  | non => cases h; have w : x = .non := w; subst w; exact .base .non
  | bl b => cases h; have w : x = .bl b := w; subst w; exact .base (.bl b)
  | int b => cases h; have w : x = .int b := w; subst w; exact .base (.int b)
  | str b => cases h; have w : x = .str b := w; subst w; exact .base (.str b)
  | tup l =>
    cases h
    obtain ⟨p, vs, rfl, h1, _⟩ := (show Dt K Hf ρ (.tup l) x from w)
    rcases h1 with (h1 | ⟨o, h1⟩) | ⟨o, its, n, h1, h2, _⟩
    · exact .base (.tup (hr.sub _ _ h1))
    · exact .fTuple (hr.sub _ _ h1)
    · exact .kTuple h1 h2
  | lst l =>
    cases h
    obtain ⟨p, vs, rfl, _, h1, _⟩ := w
    exact .base (.lst h1)
  | dct l =>
    cases h
    obtain ⟨p, vs, rfl, _, h1, _⟩ := w
    rcases h1 with h1 | ⟨o, h1⟩
    · exact .base (.dK h1)
    · exact .fDict h1
  | ref l => cases h
  | hd l => cases h
  | scr l => cases h
  | ty l => cases h
theorem cq_isi {X : Cx} : CallQ X (.builtin "isinstance") gIsi := by
  refine ⟨_, call_isi, fun ds vs H Hf ρ S Q d hr w e q => ?_⟩
  unfold gIsi at e
  split at e
  · rename_i d0 b
    split at e
    · rename_i a ea
      simp only [Option.map_eq_some_iff] at e
      obtain ⟨r, e1, rfl⟩ := e
      obtain ⟨x, y, rfl, wa, wb⟩ := dws2 w
      have wb : y = .ty b := wb
      subst wb
      refine ⟨x, .ty b, .type a, .type b, r, rfl, .ty b, dw_ty hr wa ea, kit_ty ?_, q _ _ _ _ hr (Tr.refl _ _ _) rfl⟩
      have z := List.all_eq_true.mp (List.all_eq_true.mp kit_all a (tyName_a ea)) b (isTy_b e1)
      rw [of_decide_eq_true z]
      exact e1
    · cases e
  · cases e

/-! ### subscripts, slices -/
def IxQ (X : Cx) (g : D → D → Option D) : Prop := ∃ r, IxR X r ∧
  ∀ a b x y H Hf ρ S Q d, HR X.K H Hf ρ S → Dw X.K H Hf ρ a x → Dw X.K H Hf ρ b y → g a b = some d →
    (∀ v H' Hf' ρ', HR X.K H' Hf' ρ' S → Tr H Hf ρ H' Hf' ρ' → Dt X.K Hf' ρ' d v → Q v H') → r x y H Q
def gIx : D → D → Option D
  | .lst l, .int i => atI l i
  | .tup l, .int i => atI l i
  | _, _ => none
theorem Dts.atI {K : PySem.W.Frag} {Hf : Hp} {ρ : List Addr} {l : List D} {vs : List V} {i : Int} {d : D} (h : Dts K Hf ρ l vs) (e : L2.atI l i = some d) : ∃ v, L2.atI vs i = some v ∧ Dt K Hf ρ d v := by
  unfold L2.atI at e ⊢
  rw [← h.length]
  cases z : ixN l.length i with
  | none => rw [z] at e; cases e
  | some j =>
    rw [z] at e
    exact h.get e
section
variable {X : Cx} {B : Gr} {W : WX} {pos : Pos} {a b : Expr} {fa fb : FE}
theorem ixq : IxQ X gIx := by
  refine ⟨_, ix_list.or ix_tup, fun a b x y H Hf ρ S Q d hr wa wb e q => ?_⟩
  unfold gIx at e
  split at e
  · rename_i l i
    obtain ⟨p, vs, rfl, _, h1, h2⟩ := wa
    have wb : y = .int i := wb
    obtain ⟨v, k1, k2⟩ := h2.atI e
    exact .inl ⟨p, vs, i, v, rfl, wb, SqL.of h1, k1, q _ _ _ _ hr (Tr.refl _ _ _) k2⟩
  · rename_i l i
    obtain ⟨p, vs, rfl, h1, h2⟩ := (show Dt X.K Hf ρ (.tup l) x from wa)
    have wb : y = .int i := wb
    obtain ⟨v, k1, k2⟩ := h2.atI e
    exact .inr ⟨p, vs, i, v, rfl, wb, hr.sub.sqT h1, k1, q _ _ _ _ hr (Tr.refl _ _ _) k2⟩
  · cases e
theorem q_ix (hs : PlainIx b) (ha : QR X B W a fa) (hb : QR X B W b fb) : QE X B W (.Subscript a b pos) (fOp gIx fa fb) := by
  obtain ⟨r, h1, h2⟩ := (ixq : IxQ X gIx)
  obtain ⟨ta, a1, a2⟩ := ha
  obtain ⟨tb, b1, b2⟩ := hb
  exact ⟨_, pe_ix h1 a1 b1 hs, q_two a2 b2 h2⟩
end
end DL

end

section
set_option autoImplicit false
set_option autoImplicit false
namespace DL
open PySem PySem.Spec PyProof.Rows L2

/-- around a block -/
structure Cc (X : Cx) (W : WX) : Prop where
  tk : L2N.Takes X W
  po : PassesOwn (model X.prog X.w) X.A X.env X.xe
  calm : X.calm = true
  kd : X.env.scope.kind = .function
  nd : X.N.Nodup
/-- a plain local name -/
structure Ll (X : Cx) (i : Nat) (x : Str) : Prop where
  ix : X.N[i]? = some x
  loc : X.env.scope.names.lookup x = some .local
theorem Ll.lr {X : Cx} {i : Nat} {x : Str} (h : Ll X i x) (nd : X.N.Nodup) : Lr X i x := ⟨nd, h.ix, .inl h.loc, .inr h.loc⟩

/-! ### what a store does to the relation -/
section
variable {K : PySem.W.Frag} {B : Gr} {E : Env} {S : Store} {σ : L2.St} {H Hf : Hp} {ρ : List Addr}
theorem Rel.set (r : Rel K B E S σ H Hf ρ) {d : D} {v : V} (i : Nat) (h : Dt K Hf ρ d v) : Rel K B (E.set i (some (.fz d))) S (σ.set i (some v)) H Hf ρ := by
  refine ⟨r.hr, r.tr, by simp [r.len], fun j s e => ?_, fun j k a d1 d2 e1 e2 e3 e4 => ?_⟩
  · by_cases hj : i = j
    · subst hj
      rw [List.getElem?_set] at e
      split at e
      · split at e
        · rename_i h2
          cases e
          refine ⟨v, ?_, h⟩
          rw [List.getElem?_set_self (by rw [← r.len]; exact h2)]
        · cases e
      · rename_i h3; exact absurd rfl h3
    · rw [List.getElem?_set_ne hj] at e
      rw [List.getElem?_set_ne hj]
      exact r.sl j s e
  · have ne : ∀ (j : Nat) d, (E.set i (some (.fz d)))[j]? = some (some (.own d)) → False ∨ i ≠ j := fun j d e => by
      by_cases hj : i = j
      · subst hj
        rw [List.getElem?_set] at e
        split at e
        · split at e
          · cases e
          · cases e
        · rename_i h3; exact absurd rfl h3
      · exact .inr hj
    have n1 : i ≠ j := by
      intro hj; subst hj
      rw [List.getElem?_set] at e1
      split at e1
      · split at e1 <;> cases e1
      · rename_i h3; exact h3 rfl
    have n2 : i ≠ k := by
      intro hj; subst hj
      rw [List.getElem?_set] at e2
      split at e2
      · split at e2 <;> cases e2
      · rename_i h3; exact h3 rfl
    rw [List.getElem?_set_ne n1] at e1 e3
    rw [List.getElem?_set_ne n2] at e2 e4
    exact r.dis j k a d1 d2 e1 e2 e3 e4
theorem get_set_own {E : Env} {i j : Nat} {x : Option Sl} {y : Sl} (h : (E.set i x)[j]? = some (some y)) : (i = j ∧ x = some y ∧ i < E.length) ∨ (i ≠ j ∧ E[j]? = some (some y)) := by
  by_cases hj : i = j
  · subst hj
    rw [List.getElem?_set] at h
    split at h
    · split at h
      · rename_i h2; cases h; exact .inl ⟨rfl, rfl, h2⟩
      · cases h
    · rename_i h3; exact absurd rfl h3
  · rw [List.getElem?_set_ne hj] at h
    exact .inr ⟨hj, h⟩
/-- a name gets a thing of its own -/
theorem Rel.setOwn (r : Rel K B E S σ H Hf ρ) {d : D} {p : Addr} (i : Nat) (h0 : B.H0 p = none) (hf : Hf p = none) (hn : p ∉ ρ) (o : OwnAt K H Hf ρ p d)
    (hd : ∀ (j : Nat) e, E[j]? = some (some (.own e)) → σ[j]? ≠ some (some (.ref p))) : Rel K B (E.set i (some (.own d))) S (σ.set i (some (.ref p))) H Hf ρ := by
  refine ⟨r.hr, r.tr, by simp [r.len], fun j s e => ?_, fun j k a d1 d2 e1 e2 e3 e4 => ?_⟩
  · rcases get_set_own e with ⟨rfl, e, hl⟩ | ⟨hj, e⟩
    · cases e
      refine ⟨p, ?_, h0, hf, hn, o⟩
      rw [List.getElem?_set_self (by rw [← r.len]; exact hl)]
    · rw [List.getElem?_set_ne hj]
      exact r.sl j s e
  · rcases get_set_own e1 with ⟨rfl, x1, hl⟩ | ⟨hj, e1⟩
    · rcases get_set_own e2 with ⟨rfl, x2, hl2⟩ | ⟨hk, e2⟩
      · rfl
      · rw [List.getElem?_set_self (by rw [← r.len]; exact hl)] at e3
        rw [List.getElem?_set_ne hk] at e4
        cases e3
        exact absurd e4 (hd k _ e2)
    · rcases get_set_own e2 with ⟨rfl, x2, hl2⟩ | ⟨hk, e2⟩
      · rw [List.getElem?_set_self (by rw [← r.len]; exact hl2)] at e4
        rw [List.getElem?_set_ne hj] at e3
        cases e4
        exact absurd e3 (hd j _ e1)
      · rw [List.getElem?_set_ne hj] at e3
        rw [List.getElem?_set_ne hk] at e4
        exact r.dis j k a d1 d2 e1 e2 e3 e4
/-- a name is forgotten -/
theorem Rel.drop (r : Rel K B E S σ H Hf ρ) (i : Nat) : Rel K B (E.set i none) S σ H Hf ρ := by
  refine ⟨r.hr, r.tr, by simp [r.len], fun j s e => ?_, fun j k a d1 d2 e1 e2 e3 e4 => ?_⟩
  · rcases get_set_own e with ⟨rfl, e, hl⟩ | ⟨hj, e⟩
    · cases e
    · exact r.sl j s e
  · rcases get_set_own e1 with ⟨rfl, x1, hl⟩ | ⟨hj, e1⟩
    · cases x1
    · rcases get_set_own e2 with ⟨rfl, x2, hl2⟩ | ⟨hk, e2⟩
      · cases x2
      · exact r.dis j k a d1 d2 e1 e2 e3 e4
/-- what is one's own changes -/
theorem Rel.updOwn (r : Rel K B E S σ H Hf ρ) {i : Nat} {a : Addr} {d d' : D} {o : HO} (e : E[i]? = some (some (.own d))) (hs : σ[i]? = some (some (.ref a))) (h0 : B.H0 a = none) (hf : Hf a = none) (hn : a ∉ ρ)
    (x : OwnAt K (upd H a o) Hf ρ a d') : Rel K B (E.set i (some (.own d'))) S σ (upd H a o) Hf ρ := by
  refine ⟨r.hr.own hf hn, ⟨r.tr.hf, r.tr.pre, fun b u hb hbn => ?_, fun b hb => r.tr.fresh b hb, r.tr.newh, fun b hb => ?_⟩, by simp [r.len], fun j s ej => ?_, fun j k b d1 d2 e1 e2 e3 e4 => ?_⟩
  · have : b ≠ a := fun z => by subst z; rw [h0] at hb; cases hb
    rw [upd_ne this]; exact r.tr.keep b u hb hbn
  · by_cases z : b = a
    · subst z; rw [upd_same]; simp
    · rw [upd_ne z]; exact r.tr.alive b hb
  · rcases get_set_own ej with ⟨rfl, ej, hl⟩ | ⟨hj, ej⟩
    · cases ej
      exact ⟨a, hs, h0, hf, hn, x⟩
    · have q := r.sl j s ej
      cases s with
      | fz d => exact q
      | own d2 =>
        obtain ⟨b, q1, q2, q3, q4, q5⟩ := q
        have : b ≠ a := fun z => hj (by subst z; exact r.dis i j _ d d2 e ej hs q1)
        refine ⟨b, q1, q2, q3, q4, ?_⟩
        cases d2 with
        | lst l => obtain ⟨vs, k1, k2⟩ := q5; exact ⟨vs, by rw [upd_ne this]; exact k1, k2⟩
        | dct l => obtain ⟨vs, k1, k2⟩ := q5; exact ⟨vs, by rw [upd_ne this]; exact k1, k2⟩
        | _ => exact q5.elim
  · have a1 : ∃ d1, E[j]? = some (some (.own d1)) := by
      rcases get_set_own e1 with ⟨rfl, x1, hl⟩ | ⟨hj, e1⟩
      · exact ⟨d, e⟩
      · exact ⟨_, e1⟩
    have a2 : ∃ d1, E[k]? = some (some (.own d1)) := by
      rcases get_set_own e2 with ⟨rfl, x1, hl⟩ | ⟨hj, e2⟩
      · exact ⟨d, e⟩
      · exact ⟨_, e2⟩
    obtain ⟨_, a1⟩ := a1
    obtain ⟨_, a2⟩ := a2
    exact r.dis j k b _ _ a1 a2 e3 e4
end
/-- from now on shared -/
def frz (E : Env) (i : Nat) : Env := match E[i]? with
  | some (some (.own (.lst l))) => E.set i (some (.fz (.lst l)))
  | _ => E
theorem Rel.freeze {K : PySem.W.Frag} {B : Gr} {E : Env} {S : Store} {σ : L2.St} {H Hf : Hp} {ρ : List Addr} (r : Rel K B E S σ H Hf ρ) (i : Nat) : ∃ Hf', Ext Hf Hf' ∧ Rel K B (frz E i) S σ H Hf' ρ := by
  unfold frz
  split
  · rename_i d0 e
    obtain ⟨d, hd⟩ : ∃ d, d = D.lst d0 := ⟨_, rfl⟩
    rw [← hd] at e ⊢
    obtain ⟨a, h1, h2, h3, h4, h5⟩ := r.sl i _ e
    obtain ⟨u, hu⟩ := h5.there
    have ex : Ext Hf (upd Hf a u) := fun b z e => by
      have : b ≠ a := fun q => by subst q; rw [h3] at e; cases e
      rw [upd_ne this]; exact e
    refine ⟨upd Hf a u, ex, r.hr.freeze h3 hu h4, ⟨r.tr.hf.trans ex, r.tr.pre, r.tr.keep, fun b hb => ?_, r.tr.newh, r.tr.alive⟩, by simp [r.len], fun j s ej => ?_, fun j k b d1 d2 e1 e2 e3 e4 => ?_⟩
    · by_cases z : b = a
      · subst z; exact .inr h2
      · rw [upd_ne z] at hb; exact r.tr.fresh b hb
    · rcases get_set_own ej with ⟨rfl, ej, hl⟩ | ⟨hj, ej⟩
      · cases ej
        refine ⟨.ref a, h1, ?_⟩
        subst hd
        obtain ⟨vs, k1, k2⟩ := h5
        rw [k1] at hu; cases hu
        exact ⟨a, vs, rfl, upd_same, Dts.mono ex (Pre.refl _) _ _ k2⟩
      · have q := r.sl j s ej
        cases s with
        | fz d =>
          obtain ⟨u, q1, q2⟩ := q
          exact ⟨u, q1, q2.mono ex (Pre.refl _)⟩
        | own d2 =>
          obtain ⟨b, q1, q2, q3, q4, q5⟩ := q
          have : b ≠ a := fun z => hj (by subst z; exact r.dis i j _ d d2 e ej h1 q1)
          refine ⟨b, q1, q2, by rw [upd_ne this]; exact q3, q4, ?_⟩
          cases d2 with
          | lst l => obtain ⟨vs, k1, k2⟩ := q5; exact ⟨vs, k1, Dts.mono ex (Pre.refl _) _ _ k2⟩
          | dct l => obtain ⟨vs, k1, k2⟩ := q5; exact ⟨vs, k1, Dks.mono ex (Pre.refl _) _ _ k2⟩
          | _ => exact q5.elim
    · rcases get_set_own e1 with ⟨rfl, x1, hl⟩ | ⟨hj, e1⟩
      · cases x1
      · rcases get_set_own e2 with ⟨rfl, x2, hl2⟩ | ⟨hk, e2⟩
        · cases x2
        · exact r.dis j k b d1 d2 e1 e2 e3 e4
  · exact ⟨Hf, Ext.refl _, r⟩

/-! ### statements -/
def fSkip : FS := fun _ E S => .nx E S
def fSeq (f g : FS) : FS := fun n E S => match f n E S with
  | .nx E' S' => g n E' S'
  | r => r
def fFrz (i : Nat) (f : FS) : FS := fun n E S => f n (frz E i) S
def fSet (i : Nat) (f : FE) : FS := fun n E S => match f n E S with
  | .ok d S1 => .nx (E.set i (some (.fz d))) S1
  | .exc x S1 => .ex x E S1
  | .stk => .stk
def fSetO (i : Nat) (f : FE) : FS := fun n E S => match f n E S with
  | .ok d S1 => .nx (E.set i (some (.own d))) S1
  | .exc x S1 => .ex x E S1
  | .stk => .stk
def fRet (f : FE) : FS := fun n E S => match f n E S with
  | .ok d S1 => .rt d S1
  | .exc x S1 => .ex x E S1
  | .stk => .stk
/-- a new list is handed back, to be held by several -/
def fRetH (f : FE) : FS := fun n E S => match f n E S with
  | .ok (.lst l) S1 => .rt (.hd S1.length) (S1 ++ [.lst l])
  | .ok _ _ => .stk
  | .exc x S1 => .ex x E S1
  | .stk => .stk
def fExp (f : FE) : FS := fun n E S => match f n E S with
  | .ok _ S1 => .nx E S1
  | .exc x S1 => .ex x E S1
  | .stk => .stk
def fIfS (c : FT) (f g : FS) : FS := fun n E S => match c n E S with
  | .ok true S1 => f n E S1
  | .ok false S1 => g n E S1
  | .exc x S1 => .ex x E S1
  | .stk => .stk
def fRaise (C : Str) : FS := fun _ E S => .ex ⟨C, none⟩ E S
section
variable {X : Cx} {B : Gr} {W : WX} {pos pos' : Pos} {st : Stmt} {sts : List Stmt} {e : Expr} {f g : FS} {fe : FE} {x : Str} {i : Nat}
theorem ss_nil : QSs X B W [] fSkip := ⟨_, pss_nil, fun n E S σ H Hf ρ Q r p => p σ H Hf ρ r (Ext.refl _) (Pre.refl _)⟩
theorem ss_cons (h1 : QS X B W st f) (h2 : QSs X B W sts g) : QSs X B W (st :: sts) (fSeq f g) := by
  obtain ⟨t, a1, a2⟩ := h1
  obtain ⟨u, b1, b2⟩ := h2
  refine ⟨_, pss_cons a1 b1, fun n E S σ H Hf ρ Q r p => ?_⟩
  refine a2 n E S σ H Hf ρ { Q with nx := u Q } r ?_
  unfold fSeq at p
  cases e1 : f n E S with
  | nx E' S' => rw [e1] at p; exact fun σ' H' Hf' ρ' r' ex pr => b2 n E' S' σ' H' Hf' ρ' Q r' (PostS.mono ex pr p)
  | rt d S' => rw [e1] at p; exact p
  | bk E' S' => rw [e1] at p; exact p
  | ct E' S' => rw [e1] at p; exact p
  | ex x E' S' => rw [e1] at p; exact p
  | stk => rw [e1] at p; exact p
theorem ss_one (h1 : QS X B W st f) : QSs X B W [st] f := by
  obtain ⟨t, a1, a2⟩ := h1
  exact ⟨_, pss_one a1, a2⟩
theorem ss_frz (h : QSs X B W sts f) (i : Nat) : QSs X B W sts (fFrz i f) := by
  obtain ⟨t, a1, a2⟩ := h
  refine ⟨_, a1, fun n E S σ H Hf ρ Q r p => ?_⟩
  obtain ⟨Hf', ex, r'⟩ := r.freeze i
  exact a2 n (frz E i) S σ H Hf' ρ Q r' (PostS.mono ex (Pre.refl _) p)
theorem s_set (l : Lr X i x) (he : QE X B W e fe) (hs : swapsWith e (some (.Name x pos')) pos.line X.env = pure false) : QS X B W (.Assign [.Name x pos'] e pos) (fSet i fe) := by
  obtain ⟨t, h1, h2⟩ := he
  refine ⟨_, ps_set l.nd l.ix l.loc h1 hs l.fn, fun n E S σ H Hf ρ Q r p => h2 n E S σ H Hf ρ _ r ?_⟩
  unfold fSet at p
  cases e1 : fe n E S with
  | stk => rw [e1] at p; exact p
  | exc y S1 => rw [e1] at p; exact fun c od H' Hf' ρ' a b d => p c od σ H' Hf' ρ' (r.step a b) b.hf b.pre d
  | ok d S1 => rw [e1] at p; exact fun v H' Hf' ρ' a b w => p _ _ _ _ ((r.step a b).set i w) b.hf b.pre
theorem set_own {n : Nat} {E : Env} {S : Store} {σ : L2.St} {H Hf : Hp} {ρ : List Addr} {Q : Ends} (r : Rel X.K B E S σ H Hf ρ) (p : PostS X.K W B Hf ρ Q (fSetO i fe n E S)) :
    PostF X.K W σ H Hf ρ (fun x H1 => gName i x σ H1 Q.nx) (fe n E S) := by
  unfold fSetO at p
  cases e1 : fe n E S with
  | stk => rw [e1] at p; exact p
  | exc y S1 => rw [e1] at p; exact fun c od H' Hf' ρ' a b d => p c od σ H' Hf' ρ' (r.step a b) b.hf b.pre d
  | ok d S1 =>
    rw [e1] at p
    intro q H' Hf' ρ' a b n1 n2 n3 o
    have r' := r.step a b
    refine p _ _ _ _ (r'.setOwn i ?_ n2 n3 o fun j e2 ej hj => ?_) b.hf b.pre
    · cases z : B.H0 q with
      | none => rfl
      | some u => exact absurd n1 (r.tr.alive q (by rw [z]; simp))
    · obtain ⟨a2, k1, _, _, _, k5⟩ := r.sl j _ ej
      rw [k1] at hj
      cases hj
      obtain ⟨u, hu⟩ := k5.there
      rw [n1] at hu; cases hu
theorem s_setO (l : Lr X i x) (he : QF X B W e fe) (hs : swapsWith e (some (.Name x pos')) pos.line X.env = pure false) : QS X B W (.Assign [.Name x pos'] e pos) (fSetO i fe) := by
  obtain ⟨t, h1, h2⟩ := he
  exact ⟨_, ps_set l.nd l.ix l.loc h1 hs l.fn, fun n E S σ H Hf ρ Q r p => h2 n E S σ H Hf ρ _ r (set_own r p)⟩
theorem s_ret (he : QE X B W e fe) : QS X B W (.Return (some e) pos) (fRet fe) := by
  obtain ⟨t, h1, h2⟩ := he
  refine ⟨_, ps_ret h1, fun n E S σ H Hf ρ Q r p => h2 n E S σ H Hf ρ _ r ?_⟩
  unfold fRet at p
  cases e1 : fe n E S with
  | stk => rw [e1] at p; exact p
  | exc y S1 => rw [e1] at p; exact fun c od H' Hf' ρ' a b d => p c od σ H' Hf' ρ' (r.step a b) b.hf b.pre d
  | ok d S1 => rw [e1] at p; exact fun v H' Hf' ρ' a b w => p v H' Hf' ρ' a (r.tr.trans b) w
theorem s_retN : QS X B W (.Return none pos) (fRet (fC .non)) :=
  ⟨_, ps_retN, fun n E S σ H Hf ρ Q r p => p .non H Hf ρ r.hr r.tr rfl⟩
theorem s_retH (he : QF X B W e fe) : QS X B W (.Return (some e) pos) (fRetH fe) := by
  obtain ⟨t, h1, h2⟩ := he
  refine ⟨_, ps_ret h1, fun n E S σ H Hf ρ Q r p => h2 n E S σ H Hf ρ _ r ?_⟩
  unfold fRetH at p
  cases e1 : fe n E S with
  | stk => rw [e1] at p; exact p
  | exc y S1 => rw [e1] at p; exact fun c od H' Hf' ρ' a b d => p c od σ H' Hf' ρ' (r.step a b) b.hf b.pre d
  | ok d S1 =>
    rw [e1] at p
    cases d <;> try exact p.elim
    rename_i l
    intro q H' Hf' ρ' a b n1 n2 n3 o
    obtain ⟨vs, o1, o2⟩ := o
    have pre : Pre ρ' (ρ' ++ [q]) := fun n z h => by
      rw [List.getElem?_append_left (List.getElem?_eq_some_iff.mp h).1]; exact h
    have get : ∀ (n : Nat) z, (ρ' ++ [q])[n]? = some z → (n < ρ'.length ∧ ρ'[n]? = some z) ∨ (n = ρ'.length ∧ z = q) := fun n z h => by
      by_cases hn : n < ρ'.length
      · rw [List.getElem?_append_left hn] at h; exact .inl ⟨hn, h⟩
      · rw [List.getElem?_append_right (by omega)] at h
        have h0 : n - ρ'.length = 0 := by
          have := (List.getElem?_eq_some_iff.mp h).1
          simp at this; omega
        rw [h0] at h
        simp at h
        exact .inr ⟨by omega, h.symm⟩
    have tr0 := r.tr.trans b
    refine p (.ref q) H' Hf' (ρ' ++ [q]) ⟨a.sub, by simp [a.len], fun i j z hi hj => ?_, fun n z h => ?_, fun n z c h hc => ?_⟩ ⟨tr0.hf, tr0.pre.trans pre, tr0.keep, tr0.fresh, fun z hz => ?_, tr0.alive⟩ ⟨q, ?_, rfl⟩
    · rcases get i z hi with ⟨_, hi1⟩ | ⟨hi1, ez⟩
      · rcases get j z hj with ⟨_, hj1⟩ | ⟨hj1, ez⟩
        · exact a.nd i j z hi1 hj1
        · rw [ez] at hi1; exact absurd (mem_of_get hi1) n3
      · rcases get j z hj with ⟨_, hj1⟩ | ⟨hj1, _⟩
        · rw [ez] at hj1; exact absurd (mem_of_get hj1) n3
        · omega
    · rcases get n z h with ⟨_, h⟩ | ⟨h, rfl⟩
      · exact a.hd n z h
      · exact n2
    · rcases get n z h with ⟨hn, h⟩ | ⟨rfl, rfl⟩
      · rw [List.getElem?_append_left (by rw [← a.len]; exact hn)] at hc
        have := a.cell n z c h hc
        cases c with
        | lst l => obtain ⟨us, x1, x2⟩ := this; exact ⟨us, x1, x2.mono (Ext.refl _) pre⟩
        | ins C fs => obtain ⟨dx, gs, x1, x2⟩ := this; exact ⟨dx, gs, x1, Dfs.mono (Ext.refl _) pre _ _ x2⟩
        | tbl x' q' => exact this
      · rw [a.len, List.getElem?_append_right (Nat.le_refl _)] at hc
        simp at hc
        subst hc
        exact ⟨vs, o1, o2.mono (Ext.refl _) pre⟩
    · rcases List.mem_append.mp hz with hz | hz
      · exact tr0.newh z hz
      · have : z = q := by simpa using hz
        subst this
        refine .inr ?_
        cases w : B.H0 z with
        | none => rfl
        | some u => exact absurd n1 (r.tr.alive z (by rw [w]; simp))
    · rw [← a.len, List.getElem?_append_right (Nat.le_refl _)]; simp
theorem s_exp (he : QE X B W e fe) (hs : swapsWith e none pos.line X.env = pure false) : QS X B W (.Expr e pos) (fExp fe) := by
  obtain ⟨t, h1, h2⟩ := he
  refine ⟨_, ps_expr h1 hs, fun n E S σ H Hf ρ Q r p => h2 n E S σ H Hf ρ _ r ?_⟩
  unfold fExp at p
  cases e1 : fe n E S with
  | stk => rw [e1] at p; exact p
  | exc y S1 => rw [e1] at p; exact fun c od H' Hf' ρ' a b d => p c od σ H' Hf' ρ' (r.step a b) b.hf b.pre d
  | ok d S1 => rw [e1] at p; exact fun v H' Hf' ρ' a b w => p _ _ _ _ (r.step a b) b.hf b.pre
theorem s_if {c : Expr} {a b : List Stmt} {ft : FT} (hc : QT X B W c ft) (ha : QSs X B W a f) (hb : QSs X B W b g) : QS X B W (.If c a b pos) (fIfS ft f g) := by
  obtain ⟨tc, c1, c2⟩ := hc
  obtain ⟨ta, a1, a2⟩ := ha
  obtain ⟨tb, b1, b2⟩ := hb
  refine ⟨_, ps_if c1 a1 b1, fun n E S σ H Hf ρ Q r p => c2 n E S σ H Hf ρ _ r ?_⟩
  unfold fIfS at p
  cases e1 : ft n E S with
  | stk => rw [e1] at p; exact p
  | exc y S1 => rw [e1] at p; exact fun c od H' Hf' ρ' a b d => p c od σ H' Hf' ρ' (r.step a b) b.hf b.pre d
  | ok k S1 =>
    rw [e1] at p
    intro H' Hf' ρ' h1 h2
    cases k with
    | true => exact a2 n E S1 σ H' Hf' ρ' Q (r.step h1 h2) (PostS.mono h2.hf h2.pre p)
    | false => exact b2 n E S1 σ H' Hf' ρ' Q (r.step h1 h2) (PostS.mono h2.hf h2.pre p)
/-- an error class of the text, as ValueError's -/
structure ExcC (X : Cx) (x : Str) : Prop where
  gl : Gl X x
  mg : X.mg x = some (.ref (He.ga X.K x))
  ex : PySem.W.excIn X.K (He.ga X.K x) He.veBase "ValueError.__new__" = true
  kp : PySem.W.keepIn X.K (.ref (He.ga X.K x)) = true
  sb : PySem.W.subIn X.K (.ref (He.ga X.K x)) (.type "BaseException") = some true
  ty : PySem.W.typeIn X.K (.ref (He.ga X.K x)) = some (.type "type")
  db : (x == ("__debug__" : Str)) = false
theorem s_raise {m : Str} {j : Nat} {p1 p2 : Pos} (c : ExcC X x) (cc : Cc X W) : QS X B W (.Raise (some (.Call (.Name x p1) [.Constant (.str m) j p2] [] pos')) none pos) (fRaise x) :=
  ⟨_, L2N.ps_raise cc.calm cc.tk (L2N.pmk_own PySem.F.excBase_ValueError c.ex c.mg c.kp (raises_own c.sb c.ty) c.gl c.db), fun n E S σ H Hf ρ Q r p => p (.ref (He.ga X.K x)) none σ H Hf ρ r (Ext.refl _) (Pre.refl _) ⟨rfl, rfl⟩⟩
end
end DL

end

section
set_option autoImplicit false
set_option autoImplicit false
namespace DL
open PySem PySem.Spec PyProof.Rows L2

/-! ### targets -/
abbrev Tgt := D → Env → Option Env
abbrev Tgts := List D → Env → Option Env
def gN (i : Nat) : Tgt := fun d E => some (E.set i (some (.fz d)))
def gT (g : Tgts) : Tgt := fun d E => match d with
  | .tup l => g l E
  | _ => none
def gNils : Tgts := fun l E => match l with
  | [] => some E
  | _ => none
def gConss (g : Tgt) (gs : Tgts) : Tgts := fun l E => match l with
  | d :: l => (g d E).bind fun E1 => gs l E1
  | _ => none
def QG (X : Cx) (B : Gr) (tg : Expr) (is : List Nat) (g : Tgt) : Prop := ∃ t, PG X tg t ∧
  ∀ d E E' S σ H Hf ρ v Q, Rel X.K B E S σ H Hf ρ → Dt X.K Hf ρ d v → g d E = some E' → (∀ σ', Rel X.K B E' S σ' H Hf ρ → (∀ vs, (∀ i ∈ is, i ∈ vs) → wipe σ' vs = wipe σ vs) → Q σ' H) → t v σ H Q
def QGs (X : Cx) (B : Gr) (tgs : List Expr) (is : List Nat) (g : Tgts) : Prop := ∃ t, PGs X tgs t ∧
  ∀ l E E' S σ H Hf ρ vs Q, Rel X.K B E S σ H Hf ρ → Dts X.K Hf ρ l vs → g l E = some E' → (∀ σ', Rel X.K B E' S σ' H Hf ρ → (∀ ws, (∀ i ∈ is, i ∈ ws) → wipe σ' ws = wipe σ ws) → Q σ' H) → vs.length = l.length ∧ t vs σ H Q
theorem wipe_set {σ : L2.St} {i : Nat} {x : Option V} : ∀ {vs : List Nat}, i ∈ vs → wipe (σ.set i x) vs = wipe σ vs
  | [], h => by cases h
  | v :: vs, h => by
    unfold wipe
    by_cases hv : i ∈ vs
    · rw [wipe_set hv]
    · have e : i = v := by
        rcases List.mem_cons.mp h with h | h
        · exact h
        · exact absurd h hv
      subst e
      have z : ∀ (ws : List Nat) (τ : L2.St), i ∉ ws → wipe (τ.set i x) ws = (wipe τ ws).set i x := by
        intro ws
        induction ws with
        | nil => intro τ _; rfl
        | cons w ws ih =>
          intro τ hw
          unfold wipe
          rw [ih τ fun q => hw (List.mem_cons_of_mem _ q)]
          exact List.set_comm _ _ fun q => hw (by rw [q]; exact List.mem_cons_self)
      rw [z vs σ hv, List.set_set]
section
variable {X : Cx} {B : Gr} {pos : Pos} {x : Str} {i : Nat} {e : Expr} {es : List Expr} {is js : List Nat} {g : Tgt} {gs : Tgts}
theorem g_name (l : Lr X i x) : QG X B (.Name x pos) [i] (gN i) := by
  refine ⟨_, pg_name l.nd l.ix l.loc l.fn, fun d E E' S σ H Hf ρ v Q r w h q => ?_⟩
  cases h
  exact q _ (r.set i w) fun vs hv => wipe_set (hv i (by simp))
theorem gs_nil : QGs X B [] [] gNils := by
  refine ⟨_, pgs_nil, fun l E E' S σ H Hf ρ vs Q r w h q => ?_⟩
  unfold gNils at h
  split at h
  · cases h
    simp only [Dts] at w
    subst w
    exact ⟨rfl, rfl, q σ r fun _ _ => rfl⟩
  · cases h
theorem gs_cons (h1 : QG X B e is g) (h2 : QGs X B es js gs) (hs : (assignEach (e :: es) X.env).map (·.2) = assign e X.env :: (assignEach es X.env).map (·.2)) : QGs X B (e :: es) (is ++ js) (gConss g gs) := by
  obtain ⟨t, a1, a2⟩ := h1
  obtain ⟨u, b1, b2⟩ := h2
  refine ⟨_, pgs_cons a1 b1 hs, fun l E E' S σ H Hf ρ vs Q r w h q => ?_⟩
  unfold gConss at h
  split at h
  · rename_i d l
    simp only [Option.bind_eq_some_iff] at h
    obtain ⟨E1, e1, e2⟩ := h
    simp only [Dts] at w
    obtain ⟨v, rs, rfl, w1, w2⟩ := w
    refine ⟨by rw [List.length_cons, List.length_cons, w2.length], v, rs, rfl, ?_⟩
    refine a2 d E E1 S σ H Hf ρ v _ r w1 e1 fun σ' r' z => ?_
    refine (b2 l E1 E' S σ' H Hf ρ rs Q r' w2 e2 fun σ2 r2 z2 => q σ2 r2 fun ws hw => ?_).2
    rw [z2 ws fun i hi => hw i (List.mem_append_right _ hi), z ws fun i hi => hw i (List.mem_append_left _ hi)]
  · cases h
/-- the number of targets -/
theorem g_tup {k n : Nat} (hc : X.calm = true) (h : QGs X B es is gs) (hl : ∀ l E E', gs l E = some E' → l.length = n) (hn : (assignEach es X.env).length = n) (hst : (assignEach es X.env).findIdx? (·.1) = none) : QG X B (.Tuple es k pos) is (gT gs) := by
  obtain ⟨t, a1, a2⟩ := h
  refine ⟨_, pg_tup hc a1 hn hst, fun d E E' S σ H Hf ρ v Q r w h q => ?_⟩
  unfold gT at h
  split at h
  · rename_i l
    obtain ⟨a, vs, rfl, w1, w2⟩ := (show Dt X.K Hf ρ (.tup l) v from w)
    obtain ⟨x1, x2⟩ := a2 l E E' S σ H Hf ρ vs Q r w2 h q
    exact ⟨a, vs, rfl, r.hr.sub.sqT w1, by rw [x1, hl l E E' h], x2⟩
  · cases h
end
structure GLen (gs : Tgts) (n : Nat) : Prop where
  len : ∀ l E E', gs l E = some E' → l.length = n
theorem gl_nil : GLen gNils 0 := ⟨fun l E E' h => by unfold gNils at h; split at h <;> first | rfl | cases h⟩
theorem gl_cons {g : Tgt} {gs : Tgts} {n : Nat} (h : GLen gs n) : GLen (gConss g gs) (n + 1) := ⟨fun l E E' e => by
  unfold gConss at e
  split at e
  · simp only [Option.bind_eq_some_iff] at e
    obtain ⟨E1, _, e2⟩ := e
    rw [List.length_cons, h.len _ _ _ e2]
  · cases e⟩

/-! ### assignments to several -/
def fAsg (g : Tgt) (f : FE) : FS := fun n E S => match f n E S with
  | .ok d S1 => match g d E with
    | some E1 => .nx E1 S1
    | none => .stk
  | .exc x S1 => .ex x E S1
  | .stk => .stk
def fPar2 (i j : Nat) (f : FA) : FS := fun n E S => match f n E S with
  | .ok [a, b] S1 => .nx ((E.set i (some (.fz a))).set j (some (.fz b))) S1
  | .ok _ _ => .stk
  | .exc x S1 => .ex x E S1
  | .stk => .stk
def fPar3 (i j k : Nat) (f : FA) : FS := fun n E S => match f n E S with
  | .ok [a, b, c] S1 => .nx (((E.set i (some (.fz a))).set j (some (.fz b))).set k (some (.fz c))) S1
  | .ok _ _ => .stk
  | .exc x S1 => .ex x E S1
  | .stk => .stk
section
variable {X : Cx} {B : Gr} {W : WX} {pos : Pos} {fe : FE} {fa : FA}
theorem s_asg {tg e : Expr} {is : List Nat} {g : Tgt} (he : QE X B W e fe) (hg : QG X B tg is g) (hs : swapsWithSole [tg] e pos.line X.env = pure false) (hw : swappedStores [tg] e X.env = pure none)
    (h1 : (assignEach [tg] X.env).map (·.2) = [assign tg X.env]) : QS X B W (.Assign [tg] e pos) (fAsg g fe) := by
  obtain ⟨t, a1, a2⟩ := he
  obtain ⟨u, b1, b2⟩ := hg
  refine ⟨_, ps_asg a1 b1 hs hw h1, fun n E S σ H Hf ρ Q r p => a2 n E S σ H Hf ρ _ r ?_⟩
  unfold fAsg at p
  cases e1 : fe n E S with
  | stk => rw [e1] at p; exact p
  | exc y S1 => rw [e1] at p; exact fun c od H' Hf' ρ' a b d => p c od σ H' Hf' ρ' (r.step a b) b.hf b.pre d
  | ok d S1 =>
    rw [e1] at p
    intro v H' Hf' ρ' a b w
    have p : PostS X.K W B Hf ρ Q (match g d E with | some E1 => .nx E1 S1 | none => .stk) := p
    cases e2 : g d E with
    | none => rw [e2] at p; exact p.elim
    | some E1 =>
      rw [e2] at p
      exact b2 d E E1 S1 σ H' Hf' ρ' v _ (r.step a b) w e2 fun σ' r' _ => p σ' H' Hf' ρ' r' b.hf b.pre
theorem sw2 {env : PySem.Env} {x y : Str} {px py pt pt2 : Pos} {kt k2 : Nat} {a b : Expr} (hk : env.scope.kind = .function) (hx : env.scope.names.lookup x = some .local) (hy : env.scope.names.lookup y = some .local)
    (hne : [x, y].eraseDups.length = 2) (hl : (py.line == px.line) = true) (h1 : ([a, b].any fun | .Starred .. => true | _ => false) = false) (h2 : [a, b].all (foldedForSure 8) = false) (h3 : [a, b].all (constantsAlone 8) = false) :
    swappedStores [.Tuple [.Name x px, .Name y py] kt pt] (.Tuple [a, b] k2 pt2) env = pure (some [x, y]) := by
  have hb : env.blockKind = .function := by unfold PySem.Env.blockKind; rw [hk]; rfl
  have kx : env.kindOf x = some .local := hx
  have ky : env.kindOf y = some .local := hy
  unfold swappedStores
  dsimp only
  generalize hA : List.all [a, b] (foldedForSure 8) = A at *
  generalize hB : List.all [a, b] (constantsAlone 8) = C at *
  subst h2 h3
  rw [if_neg (by rw [hb]; exact Bool.false_ne_true)]
  refine Eq.trans (if_neg (fun z => Bool.false_ne_true (h1.symm.trans z))) ?_
  generalize hF : List.filterMap _ _ = F
  have e : F = [x, y] := by
    rw [← hF]
    have hl0 : ∀ p : Pos, (p.line == (Option.map (fun x => Expr.pos x |>.line) [Expr.Name x px, Expr.Name y py].head?).getD 0) = (p.line == px.line) := fun _ => rfl
    rw [List.filterMap_cons, List.filterMap_cons, List.filterMap_nil]
    dsimp only
    rw [hl0, hl0, kx, ky, hl]
    simp
  subst e
  rw [if_neg (by rw [hne]; exact Bool.false_ne_true), if_neg Bool.false_ne_true, if_neg Bool.false_ne_true]
theorem sw3 {env : PySem.Env} {x y z : Str} {px py pz pt pt2 : Pos} {kt k2 : Nat} {a b c : Expr} (hk : env.scope.kind = .function) (hx : env.scope.names.lookup x = some .local) (hy : env.scope.names.lookup y = some .local) (hz : env.scope.names.lookup z = some .local)
    (hne : [x, y, z].eraseDups.length = 3) (hl : (py.line == px.line) = true) (hl2 : (pz.line == px.line) = true) (h1 : ([a, b, c].any fun | .Starred .. => true | _ => false) = false) (h2 : [a, b, c].all (foldedForSure 8) = false) (h3 : [a, b, c].all (constantsAlone 8) = false) :
    swappedStores [.Tuple [.Name x px, .Name y py, .Name z pz] kt pt] (.Tuple [a, b, c] k2 pt2) env = pure (some [x, y, z]) := by
  have hb : env.blockKind = .function := by unfold PySem.Env.blockKind; rw [hk]; rfl
  have kx : env.kindOf x = some .local := hx
  have ky : env.kindOf y = some .local := hy
  have kz : env.kindOf z = some .local := hz
  unfold swappedStores
  dsimp only
  generalize hA : List.all [a, b, c] (foldedForSure 8) = A at *
  generalize hB : List.all [a, b, c] (constantsAlone 8) = C at *
  subst h2 h3
  rw [if_neg (by rw [hb]; exact Bool.false_ne_true)]
  refine Eq.trans (if_neg (fun z => Bool.false_ne_true (h1.symm.trans z))) ?_
  generalize hF : List.filterMap _ _ = F
  have e : F = [x, y, z] := by
    rw [← hF]
    have hl0 : ∀ p : Pos, (p.line == (Option.map (fun x => Expr.pos x |>.line) [Expr.Name x px, Expr.Name y py, Expr.Name z pz].head?).getD 0) = (p.line == px.line) := fun _ => rfl
    rw [List.filterMap_cons, List.filterMap_cons, List.filterMap_cons, List.filterMap_nil]
    dsimp only
    rw [hl0, hl0, hl0, kx, ky, kz, hl, hl2]
    simp
  subst e
  rw [if_neg (by rw [hne]; exact Bool.false_ne_true), if_neg Bool.false_ne_true, if_neg Bool.false_ne_true]
theorem s_par2 {i j : Nat} {x y : Str} {a b : Expr} {px py pt pt2 : Pos} {kt k2 : Nat} (cc : Cc X W) (lx : Ll X i x) (ly : Ll X j y) (hij : i ≠ j) (ha : QA X B W [a, b] fa)
    (hw : swappedStores [.Tuple [.Name x px, .Name y py] kt pt] (.Tuple [a, b] k2 pt2) X.env = pure (some [x, y]))
    (hs : swapsWithSole [.Tuple [.Name x px, .Name y py] kt pt] (.Tuple [a, b] k2 pt2) pos.line X.env = pure false) :
    QS X B W (.Assign [.Tuple [.Name x px, .Name y py] kt pt] (.Tuple [a, b] k2 pt2) pos) (fPar2 i j fa) := by
  obtain ⟨t, a1, a2⟩ := ha
  refine ⟨_, ps_par cc.calm cc.nd lx.ix ly.ix hij lx.loc ly.loc a1 hw hs, fun n E S σ H Hf ρ Q r p => a2 n E S σ H Hf ρ _ r ?_⟩
  unfold fPar2 at p
  cases e1 : fa n E S with
  | stk => rw [e1] at p; exact p
  | exc y S1 => rw [e1] at p; exact fun c od H' Hf' ρ' a b d => p c od σ H' Hf' ρ' (r.step a b) b.hf b.pre d
  | ok ds S1 =>
    rw [e1] at p
    intro vs H' Hf' ρ' h1 h2 w
    match ds, p, w with
    | [d1, d2], p, w =>
      obtain ⟨v1, r1, rfl, w1, w2⟩ := w
      obtain ⟨v2, r2, rfl, w2, w3⟩ := w2
      cases w3
      exact ⟨v1, v2, rfl, p _ _ _ _ (((r.step h1 h2).set i w1).set j w2) h2.hf h2.pre⟩
theorem s_par3 {i j k : Nat} {x y z : Str} {a b c : Expr} {px py pz pt pt2 : Pos} {kt k2 : Nat} (cc : Cc X W) (lx : Ll X i x) (ly : Ll X j y) (lz : Ll X k z) (hij : i ≠ j) (hik : i ≠ k) (hjk : j ≠ k) (ha : QA X B W [a, b, c] fa)
    (hw : swappedStores [.Tuple [.Name x px, .Name y py, .Name z pz] kt pt] (.Tuple [a, b, c] k2 pt2) X.env = pure (some [x, y, z]))
    (hs : swapsWithSole [.Tuple [.Name x px, .Name y py, .Name z pz] kt pt] (.Tuple [a, b, c] k2 pt2) pos.line X.env = pure false) :
    QS X B W (.Assign [.Tuple [.Name x px, .Name y py, .Name z pz] kt pt] (.Tuple [a, b, c] k2 pt2) pos) (fPar3 i j k fa) := by
  obtain ⟨t, a1, a2⟩ := ha
  refine ⟨_, ps_par3 cc.calm cc.nd lx.ix ly.ix lz.ix hij hik hjk lx.loc ly.loc lz.loc a1 hw hs, fun n E S σ H Hf ρ Q r p => a2 n E S σ H Hf ρ _ r ?_⟩
  unfold fPar3 at p
  cases e1 : fa n E S with
  | stk => rw [e1] at p; exact p
  | exc y S1 => rw [e1] at p; exact fun c od H' Hf' ρ' a b d => p c od σ H' Hf' ρ' (r.step a b) b.hf b.pre d
  | ok ds S1 =>
    rw [e1] at p
    intro vs H' Hf' ρ' h1 h2 w
    match ds, p, w with
    | [d1, d2, d3], p, w =>
      obtain ⟨v1, r1, rfl, w1, w2⟩ := w
      obtain ⟨v2, r2, rfl, w2, w3⟩ := w2
      obtain ⟨v3, r3, rfl, w3, w4⟩ := w3
      cases w4
      exact ⟨v1, v2, v3, rfl, p _ _ _ _ ((((r.step h1 h2).set i w1).set j w2).set k w3) h2.hf h2.pre⟩
end

/-! ### what is walked -/
def WalkD (K : PySem.W.Frag) (J : It) (ds : List D) (Hf : Hp) (ρ : List Addr) : Prop := ∀ (H1 Hf1 : Hp) (ρ1 : List Addr) (S1 : Store), HR K H1 Hf1 ρ1 S1 → Ext Hf Hf1 → Pre ρ ρ1 → ∀ i : Nat,
  (∀ d, ds[i]? = some d → J.go i H1 ∧ ∀ x H2, J.yld i H1 x H2 → ∃ Hf2, HR K H2 Hf2 ρ1 S1 ∧ Tr H1 Hf1 ρ1 H2 Hf2 ρ1 ∧ Dt K Hf2 ρ1 d x) ∧ (ds.length ≤ i → J.stop i H1)
def PostI (K : PySem.W.Frag) (W : WX) (σ : L2.St) (H Hf : Hp) (ρ : List Addr) (R : It → Hp → Prop) : Res (List D) → Prop
  | .ok ds S' => ∀ J H' Hf' ρ', HR K H' Hf' ρ' S' → Tr H Hf ρ H' Hf' ρ' → WalkD K J ds Hf' ρ' → R J H'
  | .exc x S' => PostX K W σ H Hf ρ x S'
  | .stk => False
def QI (X : Cx) (B : Gr) (W : WX) (tg it : Expr) (f : FA) : Prop := ∃ wi, PI X tg it wi ∧ ∀ n E S σ H Hf ρ R, Rel X.K B E S σ H Hf ρ → PostI X.K W σ H Hf ρ R (f n E S) → wi σ H R
theorem pi_or {X : Cx} {tg it : Expr} {w1 w2 : TI} (h1 : PI X tg it w1) (h2 : PI X tg it w2) : PI X tg it (fun σ H R => w1 σ H R ∨ w2 σ H R) :=
  ⟨fun pins s σ H R I h => h.elim (h1.run pins s σ H R I) (h2.run pins s σ H R I)⟩
/-- the items of a list or tuple -/
def fIt (f : FE) : FA := fun n E S => (f n E S).bind fun d S1 => match d with
  | .lst l => .ok l S1
  | .tup l => .ok l S1
  | .scr l => .ok (l.map D.int) S1
  | _ => .stk
theorem seq_inj {K : PySem.W.Frag} {H : Hp} {a : Addr} {xs ys : List V} (h : SqL K H a xs → True) : True := trivial
section
variable {K : PySem.W.Frag} {Hf : Hp} {ρ : List Addr}
/-- the list that stands frozen at a -/
theorem walk_list {a : Addr} {vs : List V} {l : List D} (h : Hf a = some (.lst vs)) (w : Dts K Hf ρ l vs) : WalkD K (Itl K a) l Hf ρ := by
  intro H1 Hf1 ρ1 S1 hr ex pr i
  have h1 : SqL K H1 a vs := SqL.of (hr.sub _ _ (ex _ _ h))
  refine ⟨fun d e => ?_, fun hl => ⟨vs, h1, by rw [← w.length]; exact hl⟩⟩
  obtain ⟨v, e1, e2⟩ := w.get e
  refine ⟨⟨vs, v, h1, e1⟩, fun x H2 y => ?_⟩
  obtain ⟨rfl, y⟩ := y
  have := y vs h1
  rw [e1] at this; cases this
  exact ⟨Hf1, hr, Tr.refl _ _ _, e2.mono ex pr⟩
theorem walk_tup {a : Addr} {vs : List V} {l : List D} (h : SqT K Hf a vs) (w : Dts K Hf ρ l vs) : WalkD K (Itt K a) l Hf ρ := by
  intro H1 Hf1 ρ1 S1 hr ex pr i
  have h1 : SqT K H1 a vs := hr.sub.sqT (ex.sqT h)
  refine ⟨fun d e => ?_, fun hl => ⟨vs, h1, by rw [← w.length]; exact hl⟩⟩
  obtain ⟨v, e1, e2⟩ := w.get e
  refine ⟨⟨vs, v, h1, e1⟩, fun x H2 y => ?_⟩
  obtain ⟨rfl, y⟩ := y
  have := y vs h1
  rw [e1] at this; cases this
  exact ⟨Hf1, hr, Tr.refl _ _ _, e2.mono ex pr⟩
theorem walk_scr {a : Addr} {l : List Int} (h : SqL K Hf a (l.map V.int)) : WalkD K (Itl K a) (l.map D.int) Hf ρ := by
  intro H1 Hf1 ρ1 S1 hr ex pr i
  have h1 : SqL K H1 a (l.map V.int) := hr.sub.sqL (ex.sqL h)
  have w : Dts K Hf ρ (l.map D.int) (l.map V.int) := Dts.ofInts l
  refine ⟨fun d e => ?_, fun hl => ⟨_, h1, by rw [← w.length]; exact hl⟩⟩
  obtain ⟨v, e1, e2⟩ := w.get e
  refine ⟨⟨_, v, h1, e1⟩, fun x H2 y => ?_⟩
  obtain ⟨rfl, y⟩ := y
  have := y _ h1
  rw [e1] at this; cases this
  exact ⟨Hf1, hr, Tr.refl _ _ _, e2.mono ex pr⟩
end
section
variable {X : Cx} {B : Gr} {W : WX} {tg e e2 : Expr} {fe fe2 : FE} {pos p1 : Pos} {fa : FA}
theorem i_seq (he : QE X B W e fe) : QI X B W tg e (fIt fe) := by
  obtain ⟨t, a1, a2⟩ := he
  refine ⟨_, pi_or (pi_list a1) (pi_tup a1), fun n E S σ H Hf ρ R r p => ?_⟩
  unfold fIt at p
  cases e1 : fe n E S with
  | stk => rw [e1] at p; exact p.elim
  | exc y S1 =>
    rw [e1] at p
    exact .inl (a2 n E S σ H Hf ρ _ r (by rw [e1]; exact p))
  | ok d S1 =>
    rw [e1] at p
    cases d <;> try exact p.elim
    · rename_i l
      refine .inr (a2 n E S σ H Hf ρ _ r ?_)
      rw [e1]
      intro v H' Hf' ρ' h1 h2 w
      obtain ⟨a, vs, rfl, w1, w2⟩ := (show Dt X.K Hf' ρ' (.tup l) v from w)
      exact ⟨a, rfl, ⟨vs, h1.sub.sqT w1⟩, p _ H' Hf' ρ' h1 h2 (walk_tup w1 w2)⟩
    · rename_i l
      refine .inl (a2 n E S σ H Hf ρ _ r ?_)
      rw [e1]
      intro v H' Hf' ρ' h1 h2 w
      obtain ⟨a, vs, rfl, w1, w2⟩ := (show Dt X.K Hf' ρ' (.lst l) v from w)
      exact ⟨a, rfl, ⟨vs, SqL.of (h1.sub _ _ w1)⟩, p _ H' Hf' ρ' h1 h2 (walk_list w1 w2)⟩
    · rename_i l
      refine .inl (a2 n E S σ H Hf ρ _ r ?_)
      rw [e1]
      intro v H' Hf' ρ' h1 h2 w
      obtain ⟨a, rfl, w1⟩ := (show Dt X.K Hf' ρ' (.scr l) v from w)
      exact ⟨a, rfl, ⟨_, h1.sub.sqL w1⟩, p _ H' Hf' ρ' h1 h2 (walk_scr w1)⟩
/-- lo, lo + 1, .. : n of them -/
def rngD (lo : Int) (n : Nat) : List D := (List.range n).map fun i : Nat => .int (lo + i)
def smallR (j : Int) : Bool := decide (-(2 ^ 62) ≤ j) && decide (j < 2 ^ 62)
/-- by the arguments' data -/
def fLift (h : List D → Option (List D)) (f : FA) : FA := fun n E S => (f n E S).bind fun ds S1 => match h ds with
  | some l => .ok l S1
  | none => .stk
def rng1? : List D → Option (List D)
  | [.int j] => if smallR j = true then some (rngD 0 j.toNat) else none
  | _ => none
def rng2? : List D → Option (List D)
  | [.int i, .int j] => if (smallR i && smallR j) = true then some (rngD i (j - i).toNat) else none
  | _ => none
theorem lift_post {K : PySem.W.Frag} {σ : L2.St} {H Hf : Hp} {ρ : List Addr} {R : It → Hp → Prop} {h : List D → Option (List D)} {n : Nat} {E : Env} {S : Store} {Q : List V → Hp → Prop}
    (p : PostI K W σ H Hf ρ R (fLift h fa n E S))
    (q : ∀ ds l S1 vs H' Hf' ρ', h ds = some l → HR K H' Hf' ρ' S1 → Tr H Hf ρ H' Hf' ρ' → Dts K Hf' ρ' ds vs → (∀ J H2 Hf2 ρ2, HR K H2 Hf2 ρ2 S1 → Tr H Hf ρ H2 Hf2 ρ2 → WalkD K J l Hf2 ρ2 → R J H2) → Q vs H') : PostA K W σ H Hf ρ Q (fa n E S) := by
  unfold fLift at p
  cases e1 : fa n E S with
  | stk => rw [e1] at p; exact p.elim
  | exc y S1 => rw [e1] at p; exact p
  | ok ds S1 =>
    rw [e1] at p
    intro vs H' Hf' ρ' h1 h2 w
    have p : PostI K W σ H Hf ρ R (match h ds with | some l => .ok l S1 | none => .stk) := p
    cases e2 : h ds with
    | none => rw [e2] at p; exact p.elim
    | some l => rw [e2] at p; exact q ds l S1 vs H' Hf' ρ' e2 h1 h2 w p
theorem walk_rng {K : PySem.W.Frag} {lo : Int} {n : Nat} {Hf : Hp} {ρ : List Addr} : WalkD K (Itr lo n) (rngD lo n) Hf ρ := by
  intro H1 Hf1 ρ1 S1 hr ex pr i
  unfold rngD
  refine ⟨fun d e => ?_, fun hl => (by simpa using hl : n ≤ i)⟩
  rw [List.getElem?_map] at e
  cases z : (List.range n)[i]? with
  | none => rw [z] at e; cases e
  | some j =>
    rw [z] at e
    obtain ⟨hj, ej⟩ := List.getElem?_eq_some_iff.mp z
    simp at hj ej
    cases e
    refine ⟨hj, fun x H2 y => ?_⟩
    obtain ⟨rfl, rfl⟩ := y
    exact ⟨Hf1, hr, Tr.refl _ _ _, by rw [ej]; rfl⟩
theorem i_r1 {a : Expr} (hb : Blt X "range") (ha : QA X B W [a] fa) (hs : starEach [a] X.env = [(false, eval a X.env)]) : QI X B W tg (.Call (.Name "range" p1) [a] [] pos) (fLift rng1? fa) := by
  obtain ⟨t, a1, a2⟩ := ha
  refine ⟨_, pi_range1 hb.gl hb.free a1 hs, fun n E S σ H Hf ρ R r p => a2 n E S σ H Hf ρ _ r (lift_post p fun ds l S1 vs H' Hf' ρ' e h1 h2 w k => ?_)⟩
  unfold rng1? at e
  split at e
  · rename_i j
    split at e
    · rename_i hc
      cases e
      unfold smallR at hc
      simp only [Bool.and_eq_true, decide_eq_true_eq] at hc
      obtain ⟨v1, r1, rfl, w1, w2⟩ := w
      cases w2
      have w1 : v1 = .int j := w1
      exact ⟨j, by rw [w1], hc.1, hc.2, k _ H' Hf' ρ' h1 h2 walk_rng⟩
    · cases e
  · cases e
theorem i_r2 {a b : Expr} (hb : Blt X "range") (ha : QA X B W [a, b] fa) (hs : starEach [a, b] X.env = [(false, eval a X.env), (false, eval b X.env)]) (hs2 : starEach [b] X.env = [(false, eval b X.env)]) : QI X B W tg (.Call (.Name "range" p1) [a, b] [] pos) (fLift rng2? fa) := by
  obtain ⟨t, a1, a2⟩ := ha
  refine ⟨_, pi_range2 hb.gl hb.free a1 hs hs2, fun n E S σ H Hf ρ R r p => a2 n E S σ H Hf ρ _ r (lift_post p fun ds l S1 vs H' Hf' ρ' e h1 h2 w k => ?_)⟩
  unfold rng2? at e
  split at e
  · rename_i i j
    split at e
    · rename_i hc
      cases e
      unfold smallR at hc
      simp only [Bool.and_eq_true, decide_eq_true_eq] at hc
      obtain ⟨v1, r1, rfl, w1, w2⟩ := w
      obtain ⟨v2, r2, rfl, w2, w3⟩ := w2
      cases w3
      have w1 : v1 = .int i := w1
      have w2 : v2 = .int j := w2
      exact ⟨i, j, by rw [w1, w2], ⟨hc.1.1, hc.1.2, hc.2.1, hc.2.2⟩, k _ H' Hf' ρ' h1 h2 walk_rng⟩
    · cases e
  · cases e
/-- zip of two lists, of two tuples -/
def zipD : List D → List D → List D
  | a :: l, b :: m => .tup [a, b] :: zipD l m
  | _, _ => []
def zip? : List D → Option (List D)
  | [.lst l, .lst m] => some (zipD l m)
  | [.tup l, .tup m] => some (zipD l m)
  | _ => none
theorem zipD_get : ∀ {l m : List D} {i : Nat} {d : D}, (zipD l m)[i]? = some d → ∃ a b, l[i]? = some a ∧ m[i]? = some b ∧ d = .tup [a, b]
  | [], m, i, d, h => by simp [zipD] at h
  | a :: l, [], i, d, h => by simp [zipD] at h
  | a :: l, b :: m, 0, d, h => by simp [zipD] at h; exact ⟨a, b, rfl, rfl, h.symm⟩
  | a :: l, b :: m, i + 1, d, h => by
    obtain ⟨x, y, h1, h2, h3⟩ := zipD_get (l := l) (m := m) (i := i) (d := d) (by simpa [zipD] using h)
    exact ⟨x, y, by simpa using h1, by simpa using h2, h3⟩
theorem zipD_len : ∀ (l m : List D), (zipD l m).length = min l.length m.length
  | [], m => by simp [zipD]
  | a :: l, [] => by simp [zipD]
  | a :: l, b :: m => by simp only [zipD, List.length_cons, zipD_len l m]; omega
theorem pair_new {K : PySem.W.Frag} {H1 Hf1 : Hp} {ρ1 : List Addr} {S1 : Store} {a b : D} {x y : V} {T : Addr} (hr : HR K H1 Hf1 ρ1 S1) (hT : H1 T = none) (wa : Dt K Hf1 ρ1 a x) (wb : Dt K Hf1 ρ1 b y) :
    ∃ Hf2, HR K (upd H1 T (.tup [x, y])) Hf2 ρ1 S1 ∧ Tr H1 Hf1 ρ1 (upd H1 T (.tup [x, y])) Hf2 ρ1 ∧ Dt K Hf2 ρ1 (.tup [a, b]) (.ref T) := by
  have t := Tr.new (ρ := ρ1) (o := .tup [x, y]) hT hr.sub
  exact ⟨_, hr.new hT (hr.notin hT), t, T, [x, y], rfl, SqT.of upd_same, x, [y], rfl, wa.mono t.hf (Pre.refl _), y, [], rfl, wb.mono t.hf (Pre.refl _), rfl⟩
theorem i_zip {elts : List Expr} {kk : Nat} {tpos : Pos} (hb : Blt X "zip") (ha : QA X B W [e, e2] fa)
    (hs : starEach [e, e2] X.env = (false, eval e X.env) :: starEach [e2] X.env) (hpl : (backTo pos (starEach [e2] X.env)).any (·.1) = false) : QI X B W (.Tuple elts kk tpos) (.Call (.Name "zip" p1) [e, e2] [] pos) (fLift zip? fa) := by
  obtain ⟨t, a1, a2⟩ := ha
  refine ⟨_, RZ.pi_zipA hb.gl hb.free a1 hs hpl, fun n E S σ H Hf ρ R r p => a2 n E S σ H Hf ρ _ r (lift_post p fun ds l S1 vs H' Hf' ρ' e h1 h2 w k => ?_)⟩
  unfold zip? at e
  split at e
  · rename_i l m
    cases e
    obtain ⟨v1, r1, rfl, w1, w2⟩ := w
    obtain ⟨v2, r2, rfl, w2, w3⟩ := w2
    cases w3
    obtain ⟨a, xs, rfl, k1, k2⟩ := (show Dt X.K Hf' ρ' (.lst l) v1 from w1)
    obtain ⟨b, ys, rfl, k3, k4⟩ := (show Dt X.K Hf' ρ' (.lst m) v2 from w2)
    refine ⟨a, b, xs, ys, rfl, .inl ⟨SqL.of (h1.sub _ _ k1), SqL.of (h1.sub _ _ k3), k _ H' Hf' ρ' h1 h2 ?_⟩⟩
    intro H1 Hf1 ρ1 S1 hr ex pr i
    have g1 : SqL X.K H1 a xs := SqL.of (hr.sub _ _ (ex _ _ k1))
    have g2 : SqL X.K H1 b ys := SqL.of (hr.sub _ _ (ex _ _ k3))
    refine ⟨fun d e => ?_, fun hl => ⟨xs, ys, g1, g2, ?_⟩⟩
    · obtain ⟨da, db, x1, x2, rfl⟩ := zipD_get e
      obtain ⟨va, y1, y2⟩ := k2.get x1
      obtain ⟨vb, y3, y4⟩ := k4.get x2
      refine ⟨⟨xs, ys, va, vb, g1, g2, y1, y3⟩, fun x H2 y => ?_⟩
      obtain ⟨T, u1, u2, rfl, hT, rfl, z1, z2⟩ := y
      have z1 := z1 xs g1
      have z2 := z2 ys g2
      rw [y1] at z1; cases z1
      rw [y3] at z2; cases z2
      exact pair_new hr hT (y2.mono ex pr) (y4.mono ex pr)
    · rw [zipD_len] at hl
      rw [← k2.length, ← k4.length]
      omega
  · rename_i l m
    cases e
    obtain ⟨v1, r1, rfl, w1, w2⟩ := w
    obtain ⟨v2, r2, rfl, w2, w3⟩ := w2
    cases w3
    obtain ⟨a, xs, rfl, k1, k2⟩ := (show Dt X.K Hf' ρ' (.tup l) v1 from w1)
    obtain ⟨b, ys, rfl, k3, k4⟩ := (show Dt X.K Hf' ρ' (.tup m) v2 from w2)
    refine ⟨a, b, xs, ys, rfl, .inr ⟨h1.sub.sqT k1, h1.sub.sqT k3, k _ H' Hf' ρ' h1 h2 ?_⟩⟩
    intro H1 Hf1 ρ1 S1 hr ex pr i
    have g1 : SqT X.K H1 a xs := hr.sub.sqT (ex.sqT k1)
    have g2 : SqT X.K H1 b ys := hr.sub.sqT (ex.sqT k3)
    refine ⟨fun d e => ?_, fun hl => ⟨xs, ys, g1, g2, ?_⟩⟩
    · obtain ⟨da, db, x1, x2, rfl⟩ := zipD_get e
      obtain ⟨va, y1, y2⟩ := k2.get x1
      obtain ⟨vb, y3, y4⟩ := k4.get x2
      refine ⟨⟨xs, ys, va, vb, g1, g2, y1, y3⟩, fun x H2 y => ?_⟩
      obtain ⟨T, u1, u2, rfl, hT, rfl, z1, z2⟩ := y
      have z1 := z1 xs g1
      have z2 := z2 ys g2
      rw [y1] at z1; cases z1
      rw [y3] at z2; cases z2
      exact pair_new hr hT (y2.mono ex pr) (y4.mono ex pr)
    · rw [zipD_len] at hl
      rw [← k2.length, ← k4.length]
      omega
  · cases e
end
end DL

end

section
set_option autoImplicit false
set_option autoImplicit false
namespace DL
open PySem PySem.Spec PyProof.Rows L2

/-! ### for, while -/
def forL (g : Tgt) (b : Env → Store → SRes) : List D → Env → Store → SRes
  | [], E, S => .nx E S
  | d :: ds, E, S => match g d E with
    | none => .stk
    | some E1 => match b E1 S with
      | .nx E2 S2 => forL g b ds E2 S2
      | .ct E2 S2 => forL g b ds E2 S2
      | .bk E2 S2 => .nx E2 S2
      | r => r
def fFor (it : FA) (g : Tgt) (b : FS) : FS := fun n E S => match it n E S with
  | .ok ds S1 => forL g (b n) ds E S1
  | .exc x S1 => .ex x E S1
  | .stk => .stk
def whileL (c : Env → Store → Res Bool) (b : Env → Store → SRes) : Nat → Env → Store → SRes
  | 0, _, _ => .stk
  | k + 1, E, S => match c E S with
    | .ok true S1 => match b E S1 with
      | .nx E2 S2 => whileL c b k E2 S2
      | .ct E2 S2 => whileL c b k E2 S2
      | .bk E2 S2 => .nx E2 S2
      | r => r
    | .ok false S1 => .nx E S1
    | .exc x S1 => .ex x E S1
    | .stk => .stk
def fWhile (c : FT) (b : FS) : FS := fun n E S => whileL (c n) (b n) n E S
section
variable {X : Cx} {B : Gr} {W : WX} {pos : Pos} {tg it c : Expr} {body : List Stmt} {is : List Nat} {fi : FA} {g : Tgt} {b : FS} {ft : FT}
theorem s_for (cc : Cc X W) (hi : QI X B W tg it fi) (hg : QG X B tg is g) (hb : QSs X B W body b) (hs : ∀ x, foldedSetIterable it X.env x = pure x) : QS X B W (.For tg it body [] pos) (fFor fi g b) := by
  obtain ⟨wi, i1, i2⟩ := hi
  obtain ⟨t, g1, g2⟩ := hg
  obtain ⟨tb, b1, b2⟩ := hb
  refine ⟨_, ps_for cc.po cc.calm i1 g1 b1 hs, fun n E S σ H Hf ρ Q r p => i2 n E S σ H Hf ρ _ r ?_⟩
  unfold fFor at p
  cases e1 : fi n E S with
  | stk => rw [e1] at p; exact p
  | exc y S1 => rw [e1] at p; exact fun c od H' Hf' ρ' a b d => p c od σ H' Hf' ρ' (r.step a b) b.hf b.pre d
  | ok ds S1 =>
    rw [e1] at p
    intro J H1 Hf1 ρ1 hr1 t1 wk
    have p : PostS X.K W B Hf1 ρ1 Q (forL g (b n) ds E S1) := PostS.mono t1.hf t1.pre p
    let Wi : Nat → Nat → L2.St → Hp → Prop := fun i m σ H => ∃ E S Hf ρ, Rel X.K B E S σ H Hf ρ ∧ Ext Hf1 Hf ∧ Pre ρ1 ρ ∧ m = ds.length - i ∧ PostS X.K W B Hf ρ Q (forL g (b n) (ds.drop i) E S)
    refine ⟨Wi, ⟨ds.length, E, S1, Hf1, ρ1, r.step hr1 t1, Ext.refl _, Pre.refl _, by simp, by simpa using p⟩, ?_⟩
    rintro i m σ2 H2 ⟨E2, S2, Hf2, ρ2, r2, ex2, pr2, rfl, p2⟩
    obtain ⟨k1, k2⟩ := wk H2 Hf2 ρ2 S2 r2.hr ex2 pr2 i
    by_cases hi : i < ds.length
    · obtain ⟨go, yl⟩ := k1 ds[i] (List.getElem?_eq_getElem hi)
      have ed : ds.drop i = ds[i] :: ds.drop (i + 1) := List.drop_eq_getElem_cons hi
      rw [ed] at p2
      refine .inr ⟨go, Wi (i + 1) (ds.length - (i + 1)), fun σ' H' w => ⟨ds.length - (i + 1), by omega, w⟩, fun x H3 y => ?_⟩
      obtain ⟨Hf3, hr3, t3, w3⟩ := yl x H3 y
      have r3 := r2.step hr3 t3
      unfold forL at p2
      cases eg : g ds[i] E2 with
      | none => rw [eg] at p2; exact p2.elim
      | some E3 =>
        rw [eg] at p2
        refine g2 ds[i] E2 E3 S2 σ2 H3 Hf3 ρ2 x _ r3 w3 eg fun σ4 r4 _ => ?_
        refine b2 n E3 S2 σ4 H3 Hf3 ρ2 _ r4 ?_
        have p2 : PostS X.K W B Hf3 ρ2 Q (match b n E3 S2 with
          | .nx E2 S2 => forL g (b n) (ds.drop (i + 1)) E2 S2
          | .ct E2 S2 => forL g (b n) (ds.drop (i + 1)) E2 S2
          | .bk E2 S2 => .nx E2 S2
          | r => r) := PostS.mono t3.hf t3.pre p2
        cases eb : b n E3 S2 with
        | nx E5 S5 =>
          rw [eb] at p2
          exact fun σ5 H5 Hf5 ρ5 r5 ex5 pr5 => ⟨E5, S5, Hf5, ρ5, r5, (ex2.trans t3.hf).trans ex5, pr2.trans pr5, rfl, PostS.mono ex5 pr5 p2⟩
        | ct E5 S5 =>
          rw [eb] at p2
          exact fun σ5 H5 Hf5 ρ5 r5 ex5 pr5 => ⟨E5, S5, Hf5, ρ5, r5, (ex2.trans t3.hf).trans ex5, pr2.trans pr5, rfl, PostS.mono ex5 pr5 p2⟩
        | bk E5 S5 => rw [eb] at p2; exact p2
        | rt d S5 => rw [eb] at p2; exact p2
        | ex y E5 S5 => rw [eb] at p2; exact p2
        | stk => rw [eb] at p2; exact p2
    · refine .inl ⟨k2 (by omega), ?_⟩
      rw [List.drop_eq_nil_of_le (by omega)] at p2
      exact p2 σ2 H2 Hf2 ρ2 r2 (Ext.refl _) (Pre.refl _)
theorem s_while (cc : Cc X W) (hc : QT X B W c ft) (hb : QSs X B W body b) : QS X B W (.While c body [] pos) (fWhile ft b) := by
  obtain ⟨tc, c1, c2⟩ := hc
  obtain ⟨tb, b1, b2⟩ := hb
  refine ⟨_, ps_while cc.po c1 b1, fun n E S σ H Hf ρ Q r p => ?_⟩
  have p : PostS X.K W B Hf ρ Q (whileL (ft n) (b n) n E S) := p
  let Wi : Nat → L2.St → Hp → Prop := fun m σ H => ∃ E S Hf ρ, Rel X.K B E S σ H Hf ρ ∧ PostS X.K W B Hf ρ Q (whileL (ft n) (b n) m E S)
  refine ⟨Wi, ⟨n, E, S, Hf, ρ, r, p⟩, ?_⟩
  rintro m σ1 H1 ⟨E1, S1, Hf1, ρ1, r1, p1⟩
  cases m with
  | zero => exact p1.elim
  | succ m =>
    refine c2 n E1 S1 σ1 H1 Hf1 ρ1 _ r1 ?_
    unfold whileL at p1
    cases e1 : ft n E1 S1 with
    | stk => rw [e1] at p1; exact p1
    | exc y S2 => rw [e1] at p1; exact fun c od H' Hf' ρ' a b d => p1 c od σ1 H' Hf' ρ' (r1.step a b) b.hf b.pre d
    | ok k S2 =>
      rw [e1] at p1
      intro H2 Hf2 ρ2 h1 h2
      have r2 := r1.step h1 h2
      cases k with
      | false =>
        rw [if_neg Bool.false_ne_true]
        exact p1 σ1 H2 Hf2 ρ2 r2 h2.hf h2.pre
      | true =>
        rw [if_pos rfl]
        refine ⟨Wi m, fun σ' H' w => ⟨m, Nat.lt_succ_self m, w⟩, b2 n E1 S2 σ1 H2 Hf2 ρ2 _ r2 ?_⟩
        have p2 : PostS X.K W B Hf2 ρ2 Q (match b n E1 S2 with
          | .nx E2 S2 => whileL (ft n) (b n) m E2 S2
          | .ct E2 S2 => whileL (ft n) (b n) m E2 S2
          | .bk E2 S2 => .nx E2 S2
          | r => r) := PostS.mono h2.hf h2.pre p1
        cases eb : b n E1 S2 with
        | nx E5 S5 =>
          rw [eb] at p2
          exact fun σ5 H5 Hf5 ρ5 r5 ex5 pr5 => ⟨E5, S5, Hf5, ρ5, r5, PostS.mono ex5 pr5 p2⟩
        | ct E5 S5 =>
          rw [eb] at p2
          exact fun σ5 H5 Hf5 ρ5 r5 ex5 pr5 => ⟨E5, S5, Hf5, ρ5, r5, PostS.mono ex5 pr5 p2⟩
        | bk E5 S5 => rw [eb] at p2; exact p2
        | rt d S5 => rw [eb] at p2; exact p2
        | ex y E5 S5 => rw [eb] at p2; exact p2
        | stk => rw [eb] at p2; exact p2
def fBrk : FS := fun _ E S => .bk E S
def fCnt : FS := fun _ E S => .ct E S
theorem s_break : QS X B W (.Break pos) fBrk := ⟨_, ps_break, fun n E S σ H Hf ρ Q r p => p σ H Hf ρ r (Ext.refl _) (Pre.refl _)⟩
theorem s_cont : QS X B W (.Continue pos) fCnt := ⟨_, ps_continue, fun n E S σ H Hf ρ Q r p => p σ H Hf ρ r (Ext.refl _) (Pre.refl _)⟩
theorem s_pass : QS X B W (.Pass pos) fSkip := ⟨_, ps_pass, fun n E S σ H Hf ρ Q r p => p σ H Hf ρ r (Ext.refl _) (Pre.refl _)⟩
end
end DL

end

section
set_option autoImplicit false
set_option autoImplicit false
namespace DL
open PySem PySem.Spec PyProof.Rows L2

/-! ### lists that change -/
/-- name.append(value), the list one's own -/
def fApp (i : Nat) (f : FE) : FS := fun n E S => match E[i]? with
  | some (some (.own (.lst l))) => match f n E S with
    | .ok d S1 => if l.length < 1000000 then .nx (E.set i (some (.own (.lst (l ++ [d]))))) S1 else .stk
    | .exc x S1 => .ex x E S1
    | .stk => .stk
  | _ => .stk
/-- name[k] = value, the list one's own -/
def fSetIx (i : Nat) (fk fv : FE) : FS := fun n E S => match fv n E S with
  | .ok d S1 => match E[i]? with
    | some (some (.own (.lst l))) => match fk n E S1 with
      | .ok (.int k) S2 => match ixN l.length k with
        | some j => .nx (E.set i (some (.own (.lst (l.set j d))))) S2
        | none => .stk
      | .ok _ _ => .stk
      | .exc x S1 => .ex x E S1
      | .stk => .stk
    | _ => .stk
  | .exc x S1 => .ex x E S1
  | .stk => .stk
/-- name[k] = value, the list held by several -/
def fSetIxH (i : Nat) (k : Int) (fv : FE) : FS := fun n E S => match fv n E S with
  | .ok d S1 => match E[i]? with
    | some (some (.fz (.hd h))) => match S1[h]? with
      | some (.lst l) => match ixN l.length k with
        | some j => .nx E (S1.set h (.lst (l.set j d)))
        | none => .stk
      | _ => .stk
    | _ => .stk
  | .exc x S1 => .ex x E S1
  | .stk => .stk
/-- name[k], the list held by several -/
def fIxH (i : Nat) (k : Int) : FE := fun _ E S => match E[i]? with
  | some (some (.fz (.hd h))) => match S[h]? with
    | some (.lst l) => match atI l k with
      | some d => .ok d S
      | none => .stk
    | _ => .stk
  | _ => .stk
section
variable {X : Cx} {B : Gr} {W : WX} {pos pos' p1 p2 p3 : Pos} {e k : Expr} {fe fk : FE} {x : Str} {i : Nat}
theorem upd_len {xs ys : List V} : True := trivial
theorem s_app (v : Vr X i x) (he : QE X B W e fe)
    (hbase : attributeBase (.Name x p1) "append" X.env (eval (.Name x p1) X.env) = eval (.Name x p1) X.env)
    (hfew : ((backTo pos' (starEach [e] X.env)).all (fun x => !x.1) && (backToKw pos' (keywordEach [] X.env)).all (fun x => x.1.isSome)
      && decide (([e] : List Expr).length + ([] : List Keyword).length + (if ([] : List Keyword).isEmpty then 0 else 1) < 30)) = true)
    (hline : (p2.endLine == pos'.line) = true) (hs : starEach [e] X.env = (false, eval e X.env) :: starEach [] X.env) (hplain : (backTo pos' (starEach [] X.env)).any (·.1) = false) :
    QS X B W (.Expr (.Call (.Attribute (.Name x p1) "append" p2) [e] [] pos') pos) (fApp i fe) := by
  obtain ⟨t, a1, a2⟩ := he
  have hp : PE X (.Call (.Attribute (.Name x p1) "append" p2) [e] [] pos') _ := pe_bm PySem.F.plainAttrs_list PySem.F.slot_list_append PySem.F.type_list_append mt_append (pe_var v.ix v.vis v.db v.cd) (pa_cons a1 pa_nil hs) hbase hfew hline hs hplain
  refine ⟨_, ps_expr hp, fun n E S σ H Hf ρ Q r p => ?_⟩
  unfold fApp at p
  split at p
  · rename_i l el
    obtain ⟨a, h1, h2, h3, h4, vs, h5, h6⟩ := r.sl i _ el
    refine ⟨.ref a, h1, .inl ⟨rfl, vs, SqL.of h5⟩, a2 n E S σ H Hf ρ _ r ?_⟩
    cases e1 : fe n E S with
    | stk => rw [e1] at p; exact p
    | exc y S1 => rw [e1] at p; exact fun c od H' Hf' ρ' a b d => p c od σ H' Hf' ρ' (r.step a b) b.hf b.pre d
    | ok d S1 =>
      rw [e1] at p
      intro u H' Hf' ρ' k1 k2 w
      have p : PostS X.K W B Hf ρ Q (if l.length < 1000000 then .nx (E.set i (some (.own (.lst (l ++ [d]))))) S1 else .stk) := p
      by_cases hl : l.length < 1000000
      · rw [if_pos hl] at p
        have r' := r.step k1 k2
        obtain ⟨a', g1, g2, g3, g4, us, g5, g6⟩ := r'.sl i _ el
        rw [h1] at g1; cases g1
        refine ⟨a, us, u, rfl, rfl, g5, ?_, ?_⟩
        · rw [← g6.length]; exact Nat.lt_of_lt_of_le hl (by decide)
        · exact p _ _ _ _ (r'.updOwn el h1 g2 g3 g4 ⟨us ++ [u], upd_same, g6.append (Dts.one w)⟩) k2.hf k2.pre
      · rw [if_neg hl] at p; exact p.elim
  · exact p.elim
theorem s_setIx (v : Vr X i x) (hk : QE X B W k fk) (he : QE X B W e fe) (ha : ∀ v, assign (.Subscript (.Name x p1) k p2) X.env v = (do
      let ov ← holding [v] (eval (.Name x p1) X.env)
      let iv ← holding [v, ov] (eval k X.env)
      standAt p2
      holding [v, ov, iv] (setItem ov iv v)
      release [v, ov, iv] []))
    (hs : swapsWithSole [.Subscript (.Name x p1) k p2] e pos.line X.env = pure false) (hw : swappedStores [.Subscript (.Name x p1) k p2] e X.env = pure none)
    (h1 : (assignEach [.Subscript (.Name x p1) k p2] X.env).map (·.2) = [assign (.Subscript (.Name x p1) k p2) X.env]) : QS X B W (.Assign [.Subscript (.Name x p1) k p2] e pos) (fSetIx i fk fe) := by
  obtain ⟨t, a1, a2⟩ := he
  obtain ⟨u, b1, b2⟩ := hk
  refine ⟨_, ps_asg a1 (pg_sub (pe_var v.ix v.vis v.db v.cd) b1 set_list ha) hs hw h1, fun n E S σ H Hf ρ Q r p => a2 n E S σ H Hf ρ _ r ?_⟩
  unfold fSetIx at p
  cases e1 : fe n E S with
  | stk => rw [e1] at p; exact p
  | exc y S1 => rw [e1] at p; exact fun c od H' Hf' ρ' a b d => p c od σ H' Hf' ρ' (r.step a b) b.hf b.pre d
  | ok d S1 =>
    rw [e1] at p
    intro v H1 Hf1 ρ1 hr1 t1 w1
    have r1 := r.step hr1 t1
    dsimp only at p
    split at p
    · rename_i l el
      obtain ⟨a, h1, h2, h3, h4, vs, h5, h6⟩ := r1.sl i _ el
      refine ⟨.ref a, h1, b2 n E S1 σ H1 Hf1 ρ1 _ r1 ?_⟩
      cases e2 : fk n E S1 with
      | stk => rw [e2] at p; exact p
      | exc y S2 => rw [e2] at p; exact fun c od H' Hf' ρ' a b d => p c od σ H' Hf' ρ' (r1.step a b) (t1.hf.trans b.hf) (t1.pre.trans b.pre) d
      | ok dk S2 =>
        rw [e2] at p
        intro z H2 Hf2 ρ2 hr2 t2 w2
        have r2 := r1.step hr2 t2
        cases dk <;> try exact p.elim
        rename_i kk
        have w2 : z = .int kk := w2
        dsimp only at p
        split at p
        · rename_i j hj
          obtain ⟨a', g1, g2, g3, g4, us, g5, g6⟩ := r2.sl i _ el
          rw [h1] at g1; cases g1
          refine ⟨a, us, kk, j, rfl, w2, g5, by rw [← g6.length]; exact hj, ?_⟩
          exact p _ _ _ _ (r2.updOwn el h1 g2 g3 g4 ⟨us.set j v, upd_same, g6.set j (w1.mono t2.hf t2.pre)⟩) (t1.hf.trans t2.hf) (t1.pre.trans t2.pre)
        · exact p.elim
    · exact p.elim
/-- a cell of the store is written -/
theorem Rel.cell {K : PySem.W.Frag} {B : Gr} {E : Env} {S : Store} {σ : L2.St} {H Hf : Hp} {ρ : List Addr} (r : Rel K B E S σ H Hf ρ) {h : Nat} {a : Addr} {c : Cell} {o : HO} (ha : ρ[h]? = some a)
    (hc : CellOk K Hf ρ (upd H a o) a c) : Rel K B E (S.set h c) σ (upd H a o) Hf ρ := by
  have am : a ∈ ρ := mem_of_get ha
  have hfa : Hf a = none := r.hr.hd h a ha
  refine ⟨⟨fun b u e => ?_, by rw [List.length_set]; exact r.hr.len, r.hr.nd, r.hr.hd, fun n b c' e1 e2 => ?_⟩, ⟨r.tr.hf, r.tr.pre, fun b u hb hbn => ?_, r.tr.fresh, r.tr.newh, fun b hb => ?_⟩, r.len, fun i s e => ?_, r.dis⟩
  · have : b ≠ a := fun z => by subst z; rw [hfa] at e; cases e
    rw [upd_ne this]; exact r.hr.sub b u e
  · by_cases hn : h = n
    · subst hn
      rw [ha] at e1; cases e1
      have hl : h < S.length := by rw [← r.hr.len]; exact (List.getElem?_eq_some_iff.mp ha).1
      rw [List.getElem?_set_self hl] at e2
      cases e2
      exact hc
    · rw [List.getElem?_set_ne hn] at e2
      have q := r.hr.cell n b c' e1 e2
      have ne : b ≠ a := fun z => hn (by subst z; exact r.hr.nd h n _ ha e1)
      cases c' with
      | lst l => obtain ⟨vs, x, y⟩ := q; exact ⟨vs, by rw [upd_ne ne]; exact x, y⟩
      | ins C fs => obtain ⟨dx, gs, x, y⟩ := q; exact ⟨dx, gs, by rw [upd_ne ne]; exact x, y⟩
      | tbl x' q' => obtain ⟨ea, ps, x, y⟩ := q; exact ⟨ea, ps, by rw [upd_ne ne]; exact x, y⟩
  · have : b ≠ a := fun z => by
      subst z
      rcases r.tr.newh b am with z | z
      · exact hbn z
      · rw [hb] at z; cases z
    rw [upd_ne this]; exact r.tr.keep b u hb hbn
  · by_cases z : b = a
    · subst z; rw [upd_same]; simp
    · rw [upd_ne z]; exact r.tr.alive b hb
  · have q := r.sl i s e
    cases s with
    | fz d => exact q
    | own d =>
      obtain ⟨b, q1, q2, q3, q4, q5⟩ := q
      have ne : b ≠ a := fun z => q4 (z ▸ am)
      refine ⟨b, q1, q2, q3, q4, ?_⟩
      cases d with
      | lst l => obtain ⟨vs, x, y⟩ := q5; exact ⟨vs, by rw [upd_ne ne]; exact x, y⟩
      | dct l => obtain ⟨vs, x, y⟩ := q5; exact ⟨vs, by rw [upd_ne ne]; exact x, y⟩
      | _ => exact q5.elim
theorem s_setIxH {z : Int} {j : Nat} (v : Vr X i x) (he : QE X B W e fe) (ha : ∀ v, assign (.Subscript (.Name x p1) (.Constant (.int z) j p3) p2) X.env v = (do
      let ov ← holding [v] (eval (.Name x p1) X.env)
      let iv ← holding [v, ov] (eval (.Constant (.int z) j p3) X.env)
      standAt p2
      holding [v, ov, iv] (setItem ov iv v)
      release [v, ov, iv] []))
    (hs : swapsWithSole [.Subscript (.Name x p1) (.Constant (.int z) j p3) p2] e pos.line X.env = pure false) (hw : swappedStores [.Subscript (.Name x p1) (.Constant (.int z) j p3) p2] e X.env = pure none)
    (h1 : (assignEach [.Subscript (.Name x p1) (.Constant (.int z) j p3) p2] X.env).map (·.2) = [assign (.Subscript (.Name x p1) (.Constant (.int z) j p3) p2) X.env]) : QS X B W (.Assign [.Subscript (.Name x p1) (.Constant (.int z) j p3) p2] e pos) (fSetIxH i z fe) := by
  obtain ⟨t, a1, a2⟩ := he
  refine ⟨_, ps_asg a1 (pg_sub (pe_var v.ix v.vis v.db v.cd) pe_int set_list ha) hs hw h1, fun n E S σ H Hf ρ Q r p => a2 n E S σ H Hf ρ _ r ?_⟩
  unfold fSetIxH at p
  cases e1 : fe n E S with
  | stk => rw [e1] at p; exact p
  | exc y S1 => rw [e1] at p; exact fun c od H' Hf' ρ' a b d => p c od σ H' Hf' ρ' (r.step a b) b.hf b.pre d
  | ok d S1 =>
    rw [e1] at p
    intro v H1 Hf1 ρ1 hr1 t1 w1
    have r1 := r.step hr1 t1
    dsimp only at p
    split at p
    · rename_i h el
      obtain ⟨u, k1, k2⟩ := r1.sl i _ el
      obtain ⟨a, k3, rfl⟩ := k2
      split at p
      · rename_i l ec
        obtain ⟨vs, c1, c2⟩ := hr1.cell h a _ k3 ec
        split at p
        · rename_i jj hj
          refine ⟨.ref a, k1, a, vs, z, jj, rfl, rfl, c1, by rw [← c2.length]; exact hj, ?_⟩
          exact p _ _ _ _ (r1.cell k3 ⟨vs.set jj v, upd_same, c2.set jj w1⟩) t1.hf t1.pre
        · exact p.elim
      · exact p.elim
    · exact p.elim
theorem q_ixH {z : Int} {j : Nat} (v : Vr X i x) (hs : PlainIx (.Constant (.int z) j p2)) : QE X B W (.Subscript (.Name x p1) (.Constant (.int z) j p2) pos) (fIxH i z) := by
  refine ⟨_, pe_ix ix_list (pe_var v.ix v.vis v.db v.cd) pe_int hs, fun n E S σ H Hf ρ Q r p => ?_⟩
  unfold fIxH at p
  split at p
  · rename_i h el
    obtain ⟨u, k1, k2⟩ := r.sl i _ el
    obtain ⟨a, k3, rfl⟩ := k2
    split at p
    · rename_i l ec
      obtain ⟨vs, c1, c2⟩ := r.hr.cell h a _ k3 ec
      split at p
      · rename_i d ed
        obtain ⟨w, g1, g2⟩ := c2.atI ed
        exact ⟨.ref a, k1, a, vs, z, w, rfl, rfl, SqL.of c1, g1, p _ _ _ _ r.hr (Tr.refl _ _ _) g2⟩
      · exact p.elim
    · exact p.elim
  · exact p.elim
end
end DL

end

section
set_option autoImplicit false
set_option autoImplicit false
namespace DL
open PySem PySem.Spec PyProof.Rows L2

/-! ### one reading for all contexts -/
def canE (K : PySem.W.Frag) (B : Gr) (W : WX) (f : FE) : TE := fun σ H Q => ∃ n E S Hf ρ, Rel K B E S σ H Hf ρ ∧ PostE K W σ H Hf ρ Q (f n E S)
def canT (K : PySem.W.Frag) (B : Gr) (W : WX) (f : FT) : TT := fun σ H Q => ∃ n E S Hf ρ, Rel K B E S σ H Hf ρ ∧ PostT K W σ H Hf ρ Q (f n E S)
def canG (K : PySem.W.Frag) (B : Gr) (is : List Nat) (g : Tgt) : TG := fun v σ H Q => ∃ d E E' S Hf ρ, Rel K B E S σ H Hf ρ ∧ Dt K Hf ρ d v ∧ g d E = some E' ∧ (∀ σ', Rel K B E' S σ' H Hf ρ → (∀ vs, (∀ i ∈ is, i ∈ vs) → wipe σ' vs = wipe σ vs) → Q σ' H)
section
variable {X : Cx} {B : Gr} {W : WX} {e : Expr} {fe : FE} {ft : FT} {is : List Nat} {g : Tgt}
theorem QE.can (h : QE X B W e fe) : PE X e (canE X.K B W fe) := by
  obtain ⟨t, a, b⟩ := h
  exact ⟨fun pins s σ H Q I ⟨n, E, S, Hf, ρ, r, p⟩ => a.run pins s σ H Q I (b n E S σ H Hf ρ Q r p)⟩
theorem QT.can (h : QT X B W e ft) : PT X e (canT X.K B W ft) := by
  obtain ⟨t, a, b⟩ := h
  exact ⟨fun pins s σ H Q I ⟨n, E, S, Hf, ρ, r, p⟩ => a.run pins s σ H Q I (b n E S σ H Hf ρ Q r p)⟩
theorem QG.can (h : QG X B e is g) : PG X e (canG X.K B is g) := by
  obtain ⟨t, a, b⟩ := h
  exact ⟨fun pins s σ H v u Q I rv ⟨d, E, E', S, Hf, ρ, r, w, e, q⟩ => a.run pins s σ H v u Q I rv (b d E E' S σ H Hf ρ v Q r w e q)⟩
end

/-! ### what is seen within a comprehension -/
def visB (scope : Scope) (x : Str) : Bool := match scope.names.lookup x with
  | some .local => true
  | some .cell => true
  | some .free => true
  | _ => false
theorem lookup_relS_free {sc : Scope} : ∀ {names : List (Str × NameKind)} {x : Str}, names.lookup x = some .free →
    (names.map fun (n, k) => if (k == NameKind.free && sc.kind == .function && sc.names.lookup n == some .cell) then (n, NameKind.cell) else (n, k)).lookup x = some .free ∨
    (names.map fun (n, k) => if (k == NameKind.free && sc.kind == .function && sc.names.lookup n == some .cell) then (n, NameKind.cell) else (n, k)).lookup x = some .cell
  | [], _, h => by simp at h
  | (n, k) :: r, x, h => by
    rw [List.map_cons]
    by_cases e : x = n
    · subst e
      simp at h
      subst h
      dsimp only
      split <;> simp
    · have hb : (x == n) = false := by simpa using e
      rw [List.lookup_cons, hb] at h
      have ih := lookup_relS_free (sc := sc) h
      dsimp only
      split <;> (rw [List.lookup_cons, hb]; exact ih)
theorem vis_blk {scope sc : Scope} {x : Str} (h : visB scope x = true) : Vis (relS scope sc) x := by
  unfold visB at h
  split at h
  · rename_i e; exact .inl (lookup_relS_keep (by decide) e)
  · rename_i e; exact .inr (.inl (lookup_relS_keep (by decide) e))
  · rename_i e
    rcases lookup_relS_free (sc := sc) e with z | z
    · exact .inr (.inr z)
    · exact .inr (.inl z)
  · cases h
section
variable {X : Cx} {s : Shared} {H : Hp} {scope : Scope} {C : Addr} {cl : List (Str × Addr)} {fp : List Addr} {i : Nat} {x : Str}
/-- the context of a comprehension's block -/
abbrev blkX (X : Cx) (s : Shared) (H : Hp) (scope : Scope) (cl : List (Str × Addr)) (C : Addr) (fp : List Addr) : Cx := X.blk s H scope (compEnvC scope cl C X.env) fp
theorem vr_blk (hi : X.N[i]? = some x) (h : visB scope x = true) (hd : (x == ("__debug__" : Str)) = false) (hcd : (x == ("__classdict__" : Str)) = false) : Vr (blkX X s H scope cl C fp) i x :=
  ⟨hi, vis_blk (sc := X.env.scope) h, hd, hcd⟩
def glB (scope : Scope) (x : Str) : Bool := match scope.names.lookup x with
  | some .globalImplicit => true
  | _ => false
theorem gl_blk (h : glB scope x = true) : Gl (blkX X s H scope cl C fp) x := by
  unfold glB at h
  split at h
  · rename_i e; exact lookup_relS_keep (by decide) e
  · cases h
def locB (scope : Scope) (x : Str) : Bool := match scope.names.lookup x with
  | some .local => true
  | some .cell => true
  | _ => false
theorem lr_blk (nd : X.N.Nodup) (hi : X.N[i]? = some x) (h : locB scope x = true) : Lr (blkX X s H scope cl C fp) i x := by
  unfold locB at h
  split at h
  · rename_i e
    have z : (relS scope X.env.scope).names.lookup x = some .local := lookup_relS_keep (by decide) e
    exact ⟨nd, hi, .inl z, .inr z⟩
  · rename_i e
    have z : (relS scope X.env.scope).names.lookup x = some .cell := lookup_relS_keep (by decide) e
    exact ⟨nd, hi, .inr z, .inl (by show (scope.names.lookup x == some .cell) = true; rw [e]; rfl)⟩
  · cases h
end

/-! ### [e for x in xs if t] -/
def wipeE (E : Env) : List Nat → Env
  | [] => E
  | v :: vs => (wipeE E vs).set v none
theorem Rel.wipe {K : PySem.W.Frag} {B : Gr} {E : Env} {S : Store} {σ : L2.St} {H Hf : Hp} {ρ : List Addr} (r : Rel K B E S σ H Hf ρ) : ∀ vs : List Nat, Rel K B (wipeE E vs) S (L2.wipe σ vs) H Hf ρ
  | [] => r
  | v :: vs => by
    have q := Rel.wipe r vs
    unfold wipeE L2.wipe
    refine ⟨q.hr, q.tr, by simp [q.len], fun j s e => ?_, fun j k a d1 d2 e1 e2 e3 e4 => ?_⟩
    · rcases get_set_own e with ⟨rfl, e, hl⟩ | ⟨hj, e⟩
      · cases e
      · rw [List.getElem?_set_ne hj]
        exact q.sl j s e
    · rcases get_set_own e1 with ⟨rfl, x1, hl⟩ | ⟨hj, e1⟩
      · cases x1
      · rcases get_set_own e2 with ⟨rfl, x2, hl2⟩ | ⟨hk, e2⟩
        · cases x2
        · rw [List.getElem?_set_ne hj] at e3
          rw [List.getElem?_set_ne hk] at e4
          exact q.dis j k a d1 d2 e1 e2 e3 e4
/-- .. without errors -/
def Res.bindN {α β : Type} (r : Res α) (k : α → Store → Res β) : Res β := match r with
  | .ok a S => k a S
  | _ => .stk
def lcL (g : Tgt) (c : Env → Store → Res Bool) (e : Env → Store → Res D) : List D → Env → Store → Res (List D)
  | [], _, S => .ok [] S
  | d :: ds, E, S => match g d E with
    | none => .stk
    | some E1 => (c E1 S).bindN fun k S1 => match k with
      | true => (e E1 S1).bindN fun v S2 => (lcL g c e ds E S2).bindN fun vs S3 => .ok (v :: vs) S3
      | false => lcL g c e ds E S1
def fLc (it : FA) (g : Tgt) (c : FT) (e : FE) (vs : List Nat) : FE := fun n E S => (it n E S).bind fun ds S1 =>
  if ds.length ≤ 1000000 then (lcL g (c n) (e n) ds (wipeE E vs) S1).bindN fun l S2 => .ok (.lst l) S2 else .stk
def fYes : FT := fun _ _ S => .ok true S
def W0 : WX := fun _ _ _ _ => False
theorem Res.bindN_ok {α β : Type} {r : Res α} {k : α → Store → Res β} {b : β} {S : Store} (h : r.bindN k = .ok b S) : ∃ a S1, r = .ok a S1 ∧ k a S1 = .ok b S := by
  cases r with
  | ok a S1 => exact ⟨a, S1, rfl, h⟩
  | exc x S1 => cases h
  | stk => cases h
section
variable {X : Cx} {B : Gr} {W : WX} {fi : FA} {g : Tgt} {ft : FT} {fe : FE} {is : List Nat} {own : List (Str × Nat)}
theorem lc_read {wi : TI} (i2 : ∀ n E S σ H Hf ρ R, Rel X.K B E S σ H Hf ρ → PostI X.K W σ H Hf ρ R (fi n E S) → wi σ H R) (hw : ∀ i ∈ is, i ∈ own.map (·.2))
    (n : Nat) (E : Env) (S : Store) (σ : L2.St) (H Hf : Hp) (ρ : List Addr) (Q : VK) (r : Rel X.K B E S σ H Hf ρ) (p : PostF X.K W σ H Hf ρ Q (fLc fi g ft fe (own.map (·.2)) n E S)) :
    tLc wi (canG X.K B is g) (canT X.K B W0 ft) (canE X.K B W0 fe) (own.map (·.2)) σ H Q := by
  refine i2 n E S σ H Hf ρ _ r ?_
  unfold fLc at p
  cases e1 : fi n E S with
  | stk => rw [e1] at p; exact p
  | exc y S1 => rw [e1] at p; exact p
  | ok ds S1 =>
    rw [e1] at p
    intro J H1 Hf1 ρ1 hr1 t1 wk D hD
    have p : PostF X.K W σ H Hf ρ Q (if ds.length ≤ 1000000 then (lcL g (ft n) (fe n) ds (wipeE E (own.map (·.2))) S1).bindN fun l S2 => .ok (.lst l) S2 else .stk) := p
    by_cases hl : ds.length ≤ 1000000
    · rw [if_pos hl] at p
      cases el : lcL g (ft n) (fe n) ds (wipeE E (own.map (·.2))) S1 with
      | stk => rw [el] at p; exact p.elim
      | exc y S2 => rw [el] at p; exact p.elim
      | ok L Se =>
        rw [el] at p
        generalize hEw : wipeE E (own.map (·.2)) = Ew at el
        have rw0 : Rel X.K B Ew S (wipe σ (own.map (·.2))) H Hf ρ := hEw ▸ r.wipe (own.map (·.2))
        let Wi : Nat → Nat → Hp → Prop := fun i m H2 => ∃ S2 Hf2 ρ2 acc accV l, HR X.K H2 Hf2 ρ2 S2 ∧ Tr H1 Hf1 ρ1 H2 Hf2 ρ2 ∧ H2 D = some (.lst accV) ∧ Hf2 D = none ∧ D ∉ ρ2 ∧ Dts X.K Hf2 ρ2 acc accV ∧
          m = ds.length - i ∧ acc.length ≤ i ∧ lcL g (ft n) (fe n) (ds.drop i) Ew S2 = .ok l Se ∧ L = acc ++ l
        refine ⟨Wi, ⟨ds.length, S1, Hf1, ρ1, [], [], L, hr1.own (hr1.hnone hD) (hr1.notin hD), Tr.own hD, upd_same, hr1.hnone hD, hr1.notin hD, rfl, by simp, Nat.le_refl _, by simpa using el, rfl⟩, ?_⟩
        rintro i m H2 ⟨S2, Hf2, ρ2, acc, accV, l, hr2, t2, hD2, hfD, hDn, wacc, rfl, hai, ell, eL⟩
        obtain ⟨k1, k2⟩ := wk H2 Hf2 ρ2 S2 hr2 t2.hf t2.pre i
        by_cases hi : i < ds.length
        · obtain ⟨go, yl⟩ := k1 ds[i] (List.getElem?_eq_getElem hi)
          have ed : ds.drop i = ds[i] :: ds.drop (i + 1) := List.drop_eq_getElem_cons hi
          rw [ed] at ell
          refine .inr ⟨go, Wi (i + 1) (ds.length - (i + 1)), fun H' w => ⟨ds.length - (i + 1), by omega, w⟩, fun x H3 y => ?_⟩
          obtain ⟨Hf3, hr3, t3, w3⟩ := yl x H3 y
          -- what stands at D stays through a step
          have stay : ∀ {Ha Hfa : Hp} {ρa : List Addr} {Hb Hfb : Hp} {ρb : List Addr}, Tr Ha Hfa ρa Hb Hfb ρb → Ha D = some (.lst accV) → Hfa D = none → D ∉ ρa → Hb D = some (.lst accV) ∧ Hfb D = none ∧ D ∉ ρb := fun {Ha Hfa ρa Hb Hfb ρb} t a1 a2 a3 => by
            refine ⟨t.keep _ _ a1 a3, ?_, fun z => ?_⟩
            · cases z : Hfb D with
              | none => rfl
              | some u =>
                rcases t.fresh D (by rw [z]; simp) with q | q
                · exact absurd a2 q
                · rw [a1] at q; cases q
            · rcases t.newh D z with q | q
              · exact a3 q
              · rw [a1] at q; cases q
          obtain ⟨b1, b2, b3⟩ := stay t3 hD2 hfD hDn
          have r3 := rw0.step hr3 ((t1.trans t2).trans t3)
          unfold lcL at ell
          cases eg : g ds[i] Ew with
          | none => rw [eg] at ell; cases ell
          | some E3 =>
            rw [eg] at ell
            obtain ⟨k, S4, ec, ell⟩ := Res.bindN_ok ell
            refine ⟨ds[i], Ew, E3, S2, Hf3, ρ2, r3, w3, eg, fun σ4 r4 hwp => ⟨hwp _ hw |>.trans ?_, n, E3, S2, Hf3, ρ2, r4, ?_⟩⟩
            · clear hwp r4 r3 rw0
              generalize own.map (·.2) = vs
              -- wiping twice
              have z : ∀ (vs : List Nat) (τ : L2.St) (v : Nat), v ∈ vs → (wipe τ vs).set v none = wipe τ vs := by
                intro vs
                induction vs with
                | nil => intro τ v hv; cases hv
                | cons w ws ih =>
                  intro τ v hv
                  unfold wipe
                  rcases List.mem_cons.mp hv with rfl | hv
                  · rw [List.set_set]
                  · by_cases hvw : v = w
                    · subst hvw; rw [List.set_set]
                    · rw [List.set_comm _ _ (Ne.symm hvw), ih τ v hv]
              have z2 : ∀ (us vs : List Nat) (τ : L2.St), (∀ v ∈ us, v ∈ vs) → wipe (wipe τ vs) us = wipe τ vs := by
                intro us
                induction us with
                | nil => intro vs τ _; rfl
                | cons w ws ih =>
                  intro vs τ hv
                  show (wipe (wipe τ vs) ws).set w none = wipe τ vs
                  rw [ih vs τ fun v h => hv v (List.mem_cons_of_mem _ h), z vs τ w (hv w List.mem_cons_self)]
              exact z2 vs vs σ fun _ h => h
            · rw [ec]
              intro H4 Hf4 ρ4 hr4 t4
              obtain ⟨c1, c2, c3⟩ := stay t4 b1 b2 b3
              cases k with
              | false =>
                rw [if_neg Bool.false_ne_true]
                exact ⟨S4, Hf4, ρ4, acc, accV, l, hr4, (t2.trans t3).trans t4, c1, c2, c3, wacc.mono (t3.hf.trans t4.hf) (t3.pre.trans t4.pre), rfl, by omega, ell, eL⟩
              | true =>
                rw [if_pos rfl]
                obtain ⟨v, S5, ev, ell⟩ := Res.bindN_ok ell
                obtain ⟨ws, S6, ews, ell⟩ := Res.bindN_ok ell
                cases ell
                refine ⟨n, E3, S4, Hf4, ρ4, r4.step hr4 t4, ?_⟩
                rw [ev]
                intro y H5 Hf5 ρ5 hr5 t5 w5
                obtain ⟨d1, d2, d3⟩ := stay t5 c1 c2 c3
                refine ⟨accV, d1, ?_, ?_⟩
                · rw [← wacc.length]; exact Nat.lt_of_lt_of_le (show acc.length < 1000001 by omega) (by decide)
                · have tA := ((t2.trans t3).trans t4).trans t5
                  refine ⟨S5, Hf5, ρ5, acc ++ [v], accV ++ [y], ws, hr5.own d2 d3, ⟨tA.hf, tA.pre, fun a o ha hn => ?_, tA.fresh, tA.newh, fun a ha => ?_⟩, upd_same, d2, d3, ?_, rfl, ?_, ews, ?_⟩
                  · have : a ≠ D := fun z => by subst z; rw [hD] at ha; cases ha
                    rw [upd_ne this]; exact tA.keep a o ha hn
                  · by_cases z : a = D
                    · subst z; rw [upd_same]; simp
                    · rw [upd_ne z]; exact tA.alive a ha
                  · exact (wacc.mono ((t3.hf.trans t4.hf).trans t5.hf) ((t3.pre.trans t4.pre).trans t5.pre)).append (Dts.one w5)
                  · rw [List.length_append, List.length_singleton]; omega
                  · rw [eL, List.append_assoc]; rfl
        · refine .inl ⟨k2 (by omega), ?_⟩
          rw [List.drop_eq_nil_of_le (by omega)] at ell
          cases ell
          rw [List.append_nil] at eL
          subst eL
          have nH : H D = none := by
            cases z : H D with
            | none => rfl
            | some o => exact absurd hD (t1.alive D (by rw [z]; simp))
          exact p D H2 Hf2 ρ2 hr2 (t1.trans t2) nH hfD hDn ⟨accV, hD2, wacc⟩
    · rw [if_neg hl] at p; exact p.elim
end
section
variable {X : Cx} {B : Gr} {W : WX} {tg it elt c : Expr} {scope : Scope} {own : List (Str × Nat)} {pos spos py : Pos} {is : List Nat} {fi : FA} {g : Tgt} {ft : FT} {fe : FE} {i : Nat} {y : Str}
theorem t_yes {X : Cx} : PTs X [] (canT X.K B W0 fYes) :=
  ⟨fun pins s σ H Q I ⟨n, E, S, Hf, ρ, r, p⟩ => (pts_nil (X := X)).run pins s σ H Q I (p H Hf ρ r.hr (Tr.refl _ _ _))⟩
/-- a comprehension without a test -/
theorem f_lc (cc : Cc X W) (hi : QI X B W tg it fi) (ok : blkC X.N X.env.scope scope own = true)
    (hg : ∀ (s : Shared) (H : Hp) (C : Addr) (cl : List (Str × Addr)) (fp : List Addr), QG (blkX X s H scope cl C fp) B tg is g)
    (he : ∀ (s : Shared) (H : Hp) (C : Addr) (cl : List (Str × Addr)) (fp : List Addr), QE (blkX X s H scope cl C fp) B W0 elt fe) (hw : ∀ i ∈ is, i ∈ own.map (·.2)) (hs : ∀ x, foldedSetIterable it X.env x = pure x) :
    QF X B W (.ListComp elt [⟨tg, it, [], 0⟩] scope pos) (fLc fi g fYes fe (own.map (·.2))) := by
  obtain ⟨wi, i1, i2⟩ := hi
  exact ⟨_, pe_lc cc.calm cc.nd i1 (blkOk_by ok) (fun s H C cl fp => (hg s H C cl fp).can) (fun s H C cl fp => t_yes) (fun s H C cl fp => (he s H C cl fp).can) hs, lc_read i2 hw⟩
/-- .. with one -/
theorem f_lcT (cc : Cc X W) (hi : QI X B W tg it fi) (ok : blkC X.N X.env.scope scope own = true)
    (hg : ∀ (s : Shared) (H : Hp) (C : Addr) (cl : List (Str × Addr)) (fp : List Addr), QG (blkX X s H scope cl C fp) B tg is g)
    (hc : ∀ (s : Shared) (H : Hp) (C : Addr) (cl : List (Str × Addr)) (fp : List Addr), QT (blkX X s H scope cl C fp) B W0 c ft)
    (he : ∀ (s : Shared) (H : Hp) (C : Addr) (cl : List (Str × Addr)) (fp : List Addr), QE (blkX X s H scope cl C fp) B W0 elt fe) (hw : ∀ i ∈ is, i ∈ own.map (·.2)) (hs : ∀ x, foldedSetIterable it X.env x = pure x) :
    QF X B W (.ListComp elt [⟨tg, it, [c], 0⟩] scope pos) (fLc fi g ft fe (own.map (·.2))) := by
  obtain ⟨wi, i1, i2⟩ := hi
  exact ⟨_, pe_lc cc.calm cc.nd i1 (blkOk_by ok) (fun s H C cl fp => (hg s H C cl fp).can) (fun s H C cl fp => pts_one (hc s H C cl fp).can) (fun s H C cl fp => (he s H C cl fp).can) hs, lc_read i2 hw⟩
theorem fLc_lst {it : FA} {g : Tgt} {c : FT} {e : FE} {vs : List Nat} {n : Nat} {E : Env} {S : Store} (d : D) (S1 : Store) (h : fLc it g c e vs n E S = .ok d S1) (l : List (Key × D)) : d ≠ .dct l := by
  unfold fLc at h
  cases e1 : it n E S with
  | stk => rw [e1] at h; cases h
  | exc y S2 => rw [e1] at h; cases h
  | ok ds S2 =>
    rw [e1] at h
    have h : (if ds.length ≤ 1000000 then (lcL g (c n) (e n) ds (wipeE E vs) S2).bindN fun l S2 => Res.ok (D.lst l) S2 else .stk) = .ok d S1 := h
    by_cases hl : ds.length ≤ 1000000
    · rw [if_pos hl] at h
      cases e2 : lcL g (c n) (e n) ds (wipeE E vs) S2 with
      | stk => rw [e2] at h; cases h
      | exc y S3 => rw [e2] at h; cases h
      | ok l2 S3 => rw [e2] at h; cases h; intro z; cases z
    · rw [if_neg hl] at h; cases h
theorem set_fz {n : Nat} {E : Env} {S : Store} {σ : L2.St} {H Hf : Hp} {ρ : List Addr} {Q : Ends} (hn : ∀ d S1, fe n E S = .ok d S1 → ∀ l, d ≠ .dct l) (r : Rel X.K B E S σ H Hf ρ) (p : PostS X.K W B Hf ρ Q (fSet i fe n E S)) :
    PostF X.K W σ H Hf ρ (fun x H1 => gName i x σ H1 Q.nx) (fe n E S) := by
  refine PostE.ofFn hn ?_
  unfold fSet at p
  cases e1 : fe n E S with
  | stk => rw [e1] at p; exact p
  | exc y S1 => rw [e1] at p; exact fun c od H' Hf' ρ' a b d => p c od σ H' Hf' ρ' (r.step a b) b.hf b.pre d
  | ok d S1 => rw [e1] at p; exact fun v H' Hf' ρ' a b w => p _ _ _ _ ((r.step a b).set i w) b.hf b.pre
/-- y = [..] on one line, y a plain local name -/
theorem s_setLc (cc : Cc X W) (ly : Ll X i y) (hl : (py.line == pos.line) = true) (hsh : (scope.names.any fun (n, k) => n == y && (k == .local || k == .cell)) = false) (hi : QI X B W tg it fi) (ok : blkC X.N X.env.scope scope own = true)
    (hg : ∀ (s : Shared) (H : Hp) (C : Addr) (cl : List (Str × Addr)) (fp : List Addr), QG (blkX X s H scope cl C fp) B tg is g)
    (he : ∀ (s : Shared) (H : Hp) (C : Addr) (cl : List (Str × Addr)) (fp : List Addr), QE (blkX X s H scope cl C fp) B W0 elt fe) (hw : ∀ i ∈ is, i ∈ own.map (·.2)) (hs : ∀ x, foldedSetIterable it X.env x = pure x) :
    QS X B W (.Assign [.Name y py] (.ListComp elt [⟨tg, it, [], 0⟩] scope pos) spos) (fSet i (fLc fi g fYes fe (own.map (·.2)))) := by
  obtain ⟨wi, i1, i2⟩ := hi
  exact ⟨_, ps_setLc cc.calm cc.nd ly.ix ly.loc (sw_true cc.kd ly.loc hl hsh) i1 (blkOk_by ok) (fun s H C cl fp => (hg s H C cl fp).can) (fun s H C cl fp => t_yes) (fun s H C cl fp => (he s H C cl fp).can) hs,
    fun n E S σ H Hf ρ Q r p => lc_read i2 hw n E S σ H Hf ρ _ r (set_fz fLc_lst r p)⟩
theorem s_setLcT (cc : Cc X W) (ly : Ll X i y) (hl : (py.line == pos.line) = true) (hsh : (scope.names.any fun (n, k) => n == y && (k == .local || k == .cell)) = false) (hi : QI X B W tg it fi) (ok : blkC X.N X.env.scope scope own = true)
    (hg : ∀ (s : Shared) (H : Hp) (C : Addr) (cl : List (Str × Addr)) (fp : List Addr), QG (blkX X s H scope cl C fp) B tg is g)
    (hc : ∀ (s : Shared) (H : Hp) (C : Addr) (cl : List (Str × Addr)) (fp : List Addr), QT (blkX X s H scope cl C fp) B W0 c ft)
    (he : ∀ (s : Shared) (H : Hp) (C : Addr) (cl : List (Str × Addr)) (fp : List Addr), QE (blkX X s H scope cl C fp) B W0 elt fe) (hw : ∀ i ∈ is, i ∈ own.map (·.2)) (hs : ∀ x, foldedSetIterable it X.env x = pure x) :
    QS X B W (.Assign [.Name y py] (.ListComp elt [⟨tg, it, [c], 0⟩] scope pos) spos) (fSet i (fLc fi g ft fe (own.map (·.2)))) := by
  obtain ⟨wi, i1, i2⟩ := hi
  exact ⟨_, ps_setLc cc.calm cc.nd ly.ix ly.loc (sw_true cc.kd ly.loc hl hsh) i1 (blkOk_by ok) (fun s H C cl fp => (hg s H C cl fp).can) (fun s H C cl fp => pts_one (hc s H C cl fp).can) (fun s H C cl fp => (he s H C cl fp).can) hs,
    fun n E S σ H Hf ρ Q r p => lc_read i2 hw n E S σ H Hf ρ _ r (set_fz fLc_lst r p)⟩
/-- a captured name's comprehension is stored as any value -/
theorem sw_cell {env : PySem.Env} {gs : List Comprehension} {l : Nat} (h : env.scope.names.lookup y = some .cell) : swapsWith (.ListComp elt gs scope pos) (some (.Name y py)) l env = pure false := by
  have k : env.kindOf y = some .cell := h
  unfold swapsWith
  simp [k, show (NameKind.cell == NameKind.local) = false from rfl]
end

/-! ### a def keeps its promise by its body's function -/
def startE (N : List Str) (ds : List D) : Env := ds.map (fun d => some (.fz d)) ++ List.replicate (N.length - ds.length) none
/-- what a body's end is worth -/
def bodyR : SRes → Res D
  | .nx _ S => .ok .non S
  | .rt d S => .ok d S
  | .ex x _ S => .exc x S
  | _ => .stk
theorem bodyR_nx {b : SRes} {d : D} {S : Store} (h : bodyR b = .ok d S) : b = .rt d S ∨ ∃ E, b = .nx E S ∧ d = .non := by
  cases b <;> cases h
  · exact .inr ⟨_, rfl, rfl⟩
  · exact .inl rfl
theorem start_rel {K : PySem.W.Frag} {H Hf : Hp} {ρ : List Addr} {S : Store} {N : List Str} {ds : List D} {vs : List V} (hr : HR K H Hf ρ S) (w : Dts K Hf ρ ds vs) : Rel K ⟨H, Hf, ρ⟩ (startE N ds) S (L2.start N vs) H Hf ρ := by
  refine ⟨hr, Tr.refl _ _ _, ?_, fun i s e => ?_, fun i j a d e h1 _ _ _ => ?_⟩
  · unfold startE L2.start
    rw [List.length_append, List.length_append, List.length_map, List.length_map, List.length_replicate, List.length_replicate, w.length]
  · unfold startE at e
    by_cases hi : i < ds.length
    · rw [List.getElem?_append_left (by simpa using hi), List.getElem?_map, List.getElem?_eq_getElem hi] at e
      cases e
      obtain ⟨v, e1, e2⟩ := w.get (List.getElem?_eq_getElem hi)
      refine ⟨v, ?_, e2⟩
      unfold L2.start
      rw [List.getElem?_append_left (by rw [List.length_map, ← w.length]; exact hi), List.getElem?_map, e1]
      rfl
    · rw [List.getElem?_append_right (by simpa using hi), List.getElem?_replicate] at e
      split at e <;> cases e
  · unfold startE at h1
    by_cases hi : i < ds.length
    · rw [List.getElem?_append_left (by simpa using hi), List.getElem?_map, List.getElem?_eq_getElem hi] at h1
      cases h1
    · rw [List.getElem?_append_right (by simpa using hi), List.getElem?_replicate] at h1
      split at h1 <;> cases h1
/-- what a body's derivation may use of its context -/
structure Wd (X : Cx) (P : Program) (w : World) (K : PySem.W.Frag) (mg : Str → Option Value) (base : Heap) (k : Nat) : Prop where
  hP : X.prog = P
  hw : X.w = w
  hK : X.K = K
  hmg : X.mg = mg
  hb : X.base = base
  room : Room k X.A
structure Bd (X : Cx) (W : WX) (P : Program) (w : World) (K : PySem.W.Frag) (mg : Str → Option Value) (base : Heap) (k : Nat) (N : List Str) (sc : Scope) : Prop where
  cc : Cc X W
  wd : Wd X P w K mg base k
  hN : X.N = N
  hsc : X.env.scope = sc
  fn : ∀ x, X.fn x = true
  tops : X.stack = X.env :: X.outer ∧ X.env.frame = some X.env.locals
section
variable {X : Cx} {W : WX} {P : Program} {w : World} {K : PySem.W.Frag} {mg : Str → Option Value} {base : Heap} {k : Nat} {N : List Str} {sc : Scope} {i : Nat} {x : Str}
theorem Wd.blk (h : Wd X P w K mg base k) {s : Shared} {H : Hp} {scope : Scope} {cl : List (Str × Addr)} {C : Addr} {fp : List Addr} : Wd (blkX X s H scope cl C fp) P w K mg base k := ⟨h.hP, h.hw, h.hK, h.hmg, h.hb, h.room⟩
theorem takesN0 {X : Cx} : L2N.Takes X W0 := fun _ _ ⟨_, _, _, _, _, _, _, _, _, _, _, _, _, _, _, _, w⟩ => w.elim
theorem Cc.blk (h : Cc X W) {s : Shared} {H : Hp} {scope : Scope} {cl : List (Str × Addr)} {C : Addr} {fp : List Addr} (hk : scope.kind = .function) : Cc (blkX X s H scope cl C fp) W0 := ⟨takesN0, PassesOwn.never, h.calm, hk, h.nd⟩
/-- neither of the two names that are no names -/
def nmB (x : Str) : Bool := !(x == ("__debug__" : Str)) && !(x == ("__classdict__" : Str)) && !(x == ("__name__" : Str))
theorem nm_db (h : nmB x = true) : (x == ("__debug__" : Str)) = false := by
  unfold nmB at h; simp only [Bool.and_eq_true, Bool.not_eq_true'] at h; exact h.1.1
theorem nm_cd (h : nmB x = true) : (x == ("__classdict__" : Str)) = false := by
  unfold nmB at h; simp only [Bool.and_eq_true, Bool.not_eq_true'] at h; exact h.1.2
theorem nm_nm (h : nmB x = true) : x ≠ "__name__" := by
  unfold nmB at h; simp only [Bool.and_eq_true, Bool.not_eq_true'] at h; exact fun z => by rw [z] at h; simp at h
theorem Bd.vr (h : Bd X W P w K mg base k N sc) (hi : N[i]? = some x) (hv : (visB sc x && nmB x) = true) : Vr X i x := by
  rw [Bool.and_eq_true] at hv
  refine ⟨by rw [h.hN]; exact hi, ?_, nm_db hv.2, nm_cd hv.2⟩
  rw [h.hsc]
  have q := hv.1
  unfold visB at q
  split at q
  · rename_i e; exact .inl e
  · rename_i e; exact .inr (.inl e)
  · rename_i e; exact .inr (.inr e)
  · cases q
theorem Bd.lr (h : Bd X W P w K mg base k N sc) (hi : N[i]? = some x) (hv : locB sc x = true) : Lr X i x := by
  refine ⟨h.cc.nd, by rw [h.hN]; exact hi, ?_, .inl (h.fn x)⟩
  rw [h.hsc]
  unfold locB at hv
  split at hv
  · rename_i e; exact .inl e
  · rename_i e; exact .inr e
  · cases hv
theorem Bd.ll (h : Bd X W P w K mg base k N sc) (hi : N[i]? = some x) (hv : sc.names.lookup x = some .local) : Ll X i x := ⟨by rw [h.hN]; exact hi, by rw [h.hsc]; exact hv⟩
theorem Bd.gl (h : Bd X W P w K mg base k N sc) (hv : glB sc x = true) : Gl X x := by
  unfold glB at hv
  split at hv
  · rename_i e; show X.env.scope.names.lookup x = _; rw [h.hsc]; exact e
  · cases hv
/-- the module's def x -/
structure CalleeK (P : Program) (w : World) (K : PySem.W.Frag) (mg : Str → Option Value) (base : Heap) (x : Str) (k : Nat) (np : Nat) (m : MF) : Prop where
  ex : ∃ f, mg x = some (.ref f) ∧ FnD P w K mg base k f np m
theorem Wd.callee {j np : Nat} {m : MF} (h : Wd X P w K mg base k) (c : CalleeK P w K mg base x j np m) (g : Gl X x) (hd : nmB x = true) : Callee X x j np m := by
  obtain ⟨h1, h2, h3, h4, h5, _⟩ := h
  subst h1 h2 h3 h4 h5
  exact ⟨g, nm_db hd, c.ex⟩
theorem Wd.blt (h : Wd X P w K mg base k) (c : mg x = none) (g : Gl X x) : Blt X x := ⟨g, by rw [h.hmg]; exact c⟩
theorem Wd.gint {z : Int} (h : Wd X P w K mg base k) (c : ∃ t, mg x = some (.int z t)) : ∃ t, X.mg x = some (.int z t) := by rw [h.hmg]; exact c
theorem Wd.gstr {z : Str} (h : Wd X P w K mg base k) (c : ∃ t, mg x = some (.str z t)) : ∃ t, X.mg x = some (.str z t) := by rw [h.hmg]; exact c
theorem Wd.gref (h : Wd X P w K mg base k) (c : mg x = some (.ref (He.ga K x))) : X.mg x = some (.ref (He.ga X.K x)) := by rw [h.hmg, h.hK]; exact c
theorem Wd.hu (h : Wd X P w K mg base k) : X.A.units + 64 < cLine := h.room.units
theorem Wd.exc (h : Wd X P w K mg base k) (g : Gl X x) (hd : nmB x = true) (c : mg x = some (.ref (He.ga K x))) (e : (He.Fa.exc x).ok K = true) : ExcC X x := by
  obtain ⟨h1, h2, h3, h4, h5, _⟩ := h
  subst h1 h2 h3 h4 h5
  have e : (PySem.W.excIn X.K (He.ga X.K x) He.veBase "ValueError.__new__" && (PySem.W.keepIn X.K (.ref (He.ga X.K x)) && (decide (PySem.W.subIn X.K (.ref (He.ga X.K x)) (.type "BaseException") = some true) && decide (PySem.W.typeIn X.K (.ref (He.ga X.K x)) = some (.type "type"))))) = true := e
  simp only [Bool.and_eq_true, decide_eq_true_eq] at e
  exact ⟨g, c, e.1, e.2.1, e.2.2.1, e.2.2.2, nm_db hd⟩
end
theorem fnOk_of {P : Program} {w : World} {K : PySem.W.Frag} {mg : Str → Option Value} {base : Heap} {x qual : Str} {params : Arguments} {body : List Stmt} {scope : Scope} {f : Addr} {fd : FuncData} {N ps : List Str} {k np : Nat} {m : MF} {fb : FS}
    (F : FunD K x qual params body scope [] [] f fd) (S : FnScope N ps scope) (hp : ps.length = np)
    (der : ∀ (X : Cx) (B : Gr) (W : WX), Bd X W P w K mg base k N scope → QSs X B W body fb)
    (impl : ∀ ds S, ds.length = np → m ds S ≠ .stk → ∃ n, bodyR (fb n (startE N ds) S) = m ds S) : FnOk P w K mg base (L2N.CX P w) (k + 1) f fd ps (spD K np m) := by
  subst hp
  refine F.ok S (fun vs H Q E h => ?_) (fun cdv A outer s H vs Q E hr h => ?_)
  · obtain ⟨ds, St, Hf, ρ, h1, h2, h3, h4⟩ := h
    rw [← h3.length, h1]
  · obtain ⟨ds, St, Hf, ρ, h1, h2, h3, h4⟩ := h
    have d := der (cxOf (L2N.CX P w) P w K mg base N qual scope f cdv A outer s H E) ⟨H, Hf, ρ⟩ (fun c d _ H => E c d H)
      ⟨⟨L2N.takes_of rfl rfl rfl rfl, passes_of rfl, rfl, S.kind, S.nd⟩, ⟨rfl, rfl, rfl, rfl, rfl, hr⟩, rfl, rfl, fun _ => rfl, rfl, rfl⟩
    obtain ⟨t, a, b⟩ := d
    refine ⟨t, a, ?_⟩
    have hm : m ds St ≠ .stk := fun z => by rw [z] at h4; exact h4
    obtain ⟨n, e⟩ := impl ds St h1 hm
    refine b n (startE N ds) St (L2.start N vs) H Hf ρ _ (start_rel h2 h3) ?_
    rw [← e] at h4
    cases eb : fb n (startE N ds) St with
    | nx E' S' => rw [eb] at h4; exact fun σ' H' Hf' ρ' r _ _ => h4 .non H' Hf' ρ' r.hr r.tr rfl
    | rt d S' => rw [eb] at h4; exact fun v H' Hf' ρ' a b c => h4 v H' Hf' ρ' a b c
    | bk E' S' => rw [eb] at h4; exact h4.elim
    | ct E' S' => rw [eb] at h4; exact h4.elim
    | ex y E' S' => rw [eb] at h4; exact fun c od σ' H' Hf' ρ' r _ _ z => h4 c od H' Hf' ρ' r.hr r.tr z
    | stk => rw [eb] at h4; exact h4.elim
theorem fnD_of {P : Program} {w : World} {K : PySem.W.Frag} {mg : Str → Option Value} {base : Heap} {x qual : Str} {params : Arguments} {body : List Stmt} {scope : Scope} {f : Addr} {fd : FuncData} {N ps : List Str} {k np : Nat} {m : MF} {fb : FS}
    (F : FunD K x qual params body scope [] [] f fd) (S : FnScope N ps scope) (hp : ps.length = np) (hb : Binds K fd ps [])
    (der : ∀ (X : Cx) (B : Gr) (W : WX), Bd X W P w K mg base k N scope → QSs X B W body fb)
    (impl : ∀ ds S, ds.length = np → m ds S ≠ .stk → ∃ n, bodyR (fb n (startE N ds) S) = m ds S) : FnD P w K mg base (k + 1) f np m :=
  ⟨fd, ps, hp, fnOk_of F S hp der impl, F.kp, hb⟩
/-- what the head tells -/
structure Hd (fa : List He.Fa) (fn : List He.DefD) (K : PySem.W.Frag) (mg : Str → Option Value) : Prop where
  ex : ∃ h : Heap, K.In h ∧ h.Ns mainGlobals mg
  c : He.SaysD fa fn K
section
variable {fa : List He.Fa} {fn : List He.DefD} {K : PySem.W.Frag} {mg : Str → Option Value} {x : Str}
theorem Hd.glo (T : Hd fa fn K mg) (i : Nat) (h : fa[i]? = some (.glo x)) : mg x = some (.ref (He.ga K x)) := by
  obtain ⟨hp, X, G⟩ := T.ex
  exact He.glo_ok X G (T.c.fact i h)
theorem Hd.free (T : Hd fa fn K mg) (i : Nat) (h : fa[i]? = some (.free x)) : mg x = none := by
  obtain ⟨hp, X, G⟩ := T.ex
  exact He.free_ok X G (T.c.fact i h)
theorem Hd.int (T : Hd fa fn K mg) (i : Nat) {z : Int} (h : fa[i]? = some (.int x z)) : ∃ t, mg x = some (.int z t) := by
  obtain ⟨hp, X, G⟩ := T.ex
  exact He.int_ok X G (T.c.fact i h)
theorem Hd.exc (T : Hd fa fn K mg) (i : Nat) (h : fa[i]? = some (.exc x)) : (He.Fa.exc x).ok K = true := T.c.fact i h
/-- a def of the text, by its function -/
theorem Hd.callee {P : Program} {w : World} {base : Heap} {params : Arguments} {body : List Stmt} {scope : Scope} {N ps : List Str} {k np : Nat} {m : MF} {fb : FS} {nm qual : Str} (T : Hd fa fn K mg) (i j : Nat) (h : fa[i]? = some (.glo x))
    (hd : fn[j]? = some ⟨(x, none), nm, qual, params, body, scope, [], []⟩) (S : FnScope N ps scope) (hp : ps.length = np)
    (hb : ∀ (kV doc pm : Value) (an : Option Addr) (cdv ct : Value) (us : List Value), us.length = ps.length → bindArgs (PySem.W.fnOf nm qual params body scope .none kV doc pm an cdv ct) ⟨us, []⟩ = pure (ps.zip us))
    (der : ∀ (X : Cx) (B : Gr) (W : WX), Bd X W P w K mg base k N scope → QSs X B W body fb)
    (impl : ∀ ds S, ds.length = np → m ds S ≠ .stk → ∃ n, bodyR (fb n (startE N ds) S) = m ds S) : CalleeK P w K mg base x (k + 1) np m := by
  obtain ⟨fd, F⟩ := T.c.def_ j hd
  refine ⟨_, T.glo i h, fnD_of (f := He.ga K x) F S hp (FunD.bindsN F hb) der impl⟩
end
end DL

end

section
set_option autoImplicit false
set_option autoImplicit false
namespace DL
open PySem PySem.Spec PyProof.Rows L2

/-! ### - a -/
def gNeg : D → Option D
  | .int i => some (.int (-i))
  | _ => none
def fUn (g : D → Option D) (f : FE) : FE := fun n E S => (f n E S).bind fun d S1 => match g d with
  | some r => .ok r S1
  | none => .stk
section
variable {X : Cx} {B : Gr} {W : WX} {pos : Pos} {a b : Expr} {fa fb : FE}
theorem q_neg (ha : QE X B W a fa) : QE X B W (.UnaryOp .USub a pos) (fUn gNeg fa) := by
  obtain ⟨t, h1, h2⟩ := ha
  refine ⟨_, pe_un un_neg h1, fun n E S σ H Hf ρ Q r p => h2 n E S σ H Hf ρ _ r ?_⟩
  unfold fUn at p
  cases e : fa n E S with
  | stk => rw [e] at p; exact p
  | exc x S1 => rw [e] at p; exact p
  | ok d S1 =>
    rw [e] at p
    intro v H' Hf' ρ' h1 h2 h3
    cases d <;> try exact p.elim
    rename_i z
    exact ⟨z, h3, p _ H' Hf' ρ' h1 h2 rfl⟩
end

/-! ### x in xs, of flat things -/
def flatD : D → Bool
  | .non => true
  | .bl _ => true
  | .int _ => true
  | .str _ => true
  | _ => false
/-- == of flat things -/
def eqF : D → D → Bool
  | .non, .non => true
  | .bl a, .bl b => a == b
  | .bl a, .int b => (if a then 1 else 0) == b
  | .int a, .bl b => a == (if b then 1 else 0)
  | .int a, .int b => a == b
  | .str a, .str b => a == b
  | _, _ => false
def inF (x : D) (l : List D) : Bool := l.any fun y => eqF y x
section
variable {K : PySem.W.Frag} {H Hf : Hp} {ρ : List Addr}
theorem flat_v {d : D} {v : V} (h : Dt K Hf ρ d v) (f : flatD d = true) : flatV v = true := by
  cases d <;> try cases f
  · have h : v = .non := h; subst h; rfl
  · rename_i b; have h : v = .bl b := h; subst h; rfl
  · rename_i b; have h : v = .int b := h; subst h; rfl
  · rename_i b; have h : v = .str b := h; subst h; rfl
theorem eqF_v {d e : D} {v u : V} (h : Dt K Hf ρ d v) (g : Dt K Hf ρ e u) (fd : flatD d = true) (fe : flatD e = true) : eqV v u = eqF d e := by
  cases d <;> try cases fd
  · have h : v = .non := h; subst h
    cases e <;> try cases fe
    · have g : u = .non := g; subst g; rfl
    · rename_i b; have g : u = .bl b := g; subst g; rfl
    · rename_i b; have g : u = .int b := g; subst g; rfl
    · rename_i b; have g : u = .str b := g; subst g; rfl
  · rename_i c; have h : v = .bl c := h; subst h
    cases e <;> try cases fe
    · have g : u = .non := g; subst g; rfl
    · rename_i b; have g : u = .bl b := g; subst g; rfl
    · rename_i b; have g : u = .int b := g; subst g; rfl
    · rename_i b; have g : u = .str b := g; subst g; rfl
  · rename_i c; have h : v = .int c := h; subst h
    cases e <;> try cases fe
    · have g : u = .non := g; subst g; rfl
    · rename_i b; have g : u = .bl b := g; subst g; rfl
    · rename_i b; have g : u = .int b := g; subst g; rfl
    · rename_i b; have g : u = .str b := g; subst g; rfl
  · rename_i c; have h : v = .str c := h; subst h
    cases e <;> try cases fe
    · have g : u = .non := g; subst g; rfl
    · rename_i b; have g : u = .bl b := g; subst g; rfl
    · rename_i b; have g : u = .int b := g; subst g; rfl
    · rename_i b; have g : u = .str b := g; subst g; rfl
theorem inF_v {d : D} {v : V} (h : Dt K Hf ρ d v) (f : flatD d = true) : ∀ {l : List D} {vs : List V}, Dts K Hf ρ l vs → l.all flatD = true → inV v vs = inF d l ∧ vs.all flatV = true
  | [], vs, w, _ => by simp only [Dts] at w; subst w; exact ⟨rfl, rfl⟩
  | e :: l, vs, w, fl => by
    simp only [Dts] at w
    obtain ⟨u, r, rfl, w1, w2⟩ := w
    rw [List.all_cons, Bool.and_eq_true] at fl
    obtain ⟨i1, i2⟩ := inF_v h f w2 fl.2
    unfold inV inF at *
    rw [List.any_cons, List.any_cons, eqF_v w1 h fl.1 f, i1, List.all_cons, flat_v w1 fl.1, i2]
    exact ⟨rfl, rfl⟩
theorem Dw.flat {d : D} {v : V} (h : Dw K H Hf ρ d v) (f : flatD d = true) : Dt K Hf ρ d v := by
  cases d <;> first | exact h | cases f
end
def gInB : D → D → Option Bool
  | x, .lst l => if (flatD x && l.all flatD) = true then some (inF x l) else none
  | x, .tup l => if (flatD x && l.all flatD) = true then some (inF x l) else none
  | _, _ => none
def gIn (x y : D) : Option D := (gInB x y).map D.bl
def gNin (x y : D) : Option D := (gInB x y).map fun r => D.bl (!r)
section
variable {X : Cx}
theorem gInB_inv {H Hf : Hp} {ρ : List Addr} {S : Store} {a b : D} {x y : V} {r : Bool} (hr : HR X.K H Hf ρ S) (wa : Dw X.K H Hf ρ a x) (wb : Dw X.K H Hf ρ b y) (h : gInB a b = some r) :
    ∃ p xs, y = .ref p ∧ (SqL X.K H p xs ∨ SqT X.K H p xs) ∧ flatV x = true ∧ xs.all flatV = true ∧ inV x xs = r := by
  unfold gInB at h
  split at h
  · rename_i l
    split at h
    · rename_i hc
      rw [Bool.and_eq_true] at hc
      cases h
      obtain ⟨p, vs, rfl, _, h1, h2⟩ := wb
      have wa' := wa.flat hc.1
      obtain ⟨i1, i2⟩ := inF_v wa' hc.1 h2 hc.2
      exact ⟨p, vs, rfl, .inl (SqL.of h1), flat_v wa' hc.1, i2, i1⟩
    · cases h
  · rename_i l
    split at h
    · rename_i hc
      rw [Bool.and_eq_true] at hc
      cases h
      obtain ⟨p, vs, rfl, h1, h2⟩ := (show Dt X.K Hf ρ (.tup l) y from wb)
      have wa' := wa.flat hc.1
      obtain ⟨i1, i2⟩ := inF_v wa' hc.1 h2 hc.2
      exact ⟨p, vs, rfl, .inr (hr.sub.sqT h1), flat_v wa' hc.1, i2, i1⟩
    · cases h
  · cases h
theorem opq_in : OpQ X (compareOp .In) gIn := by
  refine ⟨_, op_in_seq, fun a b x y H Hf ρ S Q d hr wa wb e q => ?_⟩
  simp only [gIn, Option.map_eq_some_iff] at e
  obtain ⟨r, e, rfl⟩ := e
  obtain ⟨p, xs, h1, h2, h3, h4, h5⟩ := gInB_inv hr wa wb e
  refine ⟨p, xs, h1, h2, h3, h4, ?_⟩
  rw [h5]
  exact q _ _ _ _ hr (Tr.refl _ _ _) rfl
theorem opq_nin : OpQ X (compareOp .NotIn) gNin := by
  refine ⟨_, op_notIn_seq, fun a b x y H Hf ρ S Q d hr wa wb e q => ?_⟩
  simp only [gNin, Option.map_eq_some_iff] at e
  obtain ⟨r, e, rfl⟩ := e
  obtain ⟨p, xs, h1, h2, h3, h4, h5⟩ := gInB_inv hr wa wb e
  refine ⟨p, xs, h1, h2, h3, h4, ?_⟩
  rw [h5]
  exact q _ _ _ _ hr (Tr.refl _ _ _) rfl
end
end DL

end

section
set_option autoImplicit false
set_option autoImplicit false
namespace DL
open PySem PySem.Spec PyProof.Rows L2

/-- more turns than any loop takes -/
def fuel : Nat := 13407807929942597099574024998205846127479365820592393377723561443721764030073546976801874298166903427690031858186486050853753882811946569946433649006084096
def fCall0 (m : MF) : FE := fun _ _ S => m [] S
section
variable {X : Cx} {B : Gr} {W : WX} {pos p1 : Pos} {x : Str} {k : Nat} {m : MF}
theorem q_call0 (c : Callee X x k 0 m) (hr : Room k X.A) (tk : L2N.Takes X W) : QE X B W (.Call (.Name x p1) [] [] pos) (fCall0 m) := by
  obtain ⟨f, hm, ⟨fd, ps, hps, F, hk, hb⟩⟩ := c.ex
  refine ⟨fun σ H Q => spD X.K 0 m [] H Q (WE W σ), ⟨fun pins s σ H Q I h => ?_⟩, fun n E S σ H Hf ρ Q r p => ⟨[], S, Hf, ρ, rfl, r.hr, rfl, ?_⟩⟩
  · refine wpAny_Call_Name_kw (ld_glob I c.gl hm ?_ c.db)
    exact PySem.W.callWith_K0 I.kIn hk (run_fnS (E := WE W) (vs := []) (us := []) F hr hb (L2N.passAt tk σ) I .nil h)
  · have p : PostE X.K W σ H Hf ρ Q (m [] S) := p
    cases e2 : m [] S with
    | stk => rw [e2] at p; exact p
    | exc y S2 => rw [e2] at p; exact fun c od H' Hf' ρ' a b d => p c od H' Hf' ρ' a b d
    | ok d S2 => rw [e2] at p; exact fun v H' Hf' ρ' a b d => p v H' Hf' ρ' a b d
end
section
variable {fa : List He.Fa} {fn : List He.DefD} {K : PySem.W.Frag} {mg : Str → Option Value} {x : Str}
/-- of what is never asked nothing is to be shown -/
theorem Hd.callee0 {P : Program} {w : World} {base : Heap} {params : Arguments} {body : List Stmt} {scope : Scope} {N ps : List Str} {k np : Nat} {nm qual : Str} (T : Hd fa fn K mg) (i j : Nat) (h : fa[i]? = some (.glo x))
    (hd : fn[j]? = some ⟨(x, none), nm, qual, params, body, scope, [], []⟩) (S : FnScope N ps scope) (hp : ps.length = np)
    (hb : ∀ (kV doc pm : Value) (an : Option Addr) (cdv ct : Value) (us : List Value), us.length = ps.length → bindArgs (PySem.W.fnOf nm qual params body scope .none kV doc pm an cdv ct) ⟨us, []⟩ = pure (ps.zip us)) :
    CalleeK P w K mg base x k np (fun _ _ => .stk) := by
  obtain ⟨fd, F⟩ := T.c.def_ j hd
  refine ⟨He.ga K x, T.glo i h, fd, ps, hp, ⟨fun vs H Q E z => ?_, fun A outer s H args us vs Q E _ _ _ _ z => ?_⟩, F.kp, FunD.bindsN F hb⟩
  · obtain ⟨_, _, _, _, _, _, _, z⟩ := z; exact z.elim
  · obtain ⟨_, _, _, _, _, _, _, z⟩ := z; exact z.elim
end
/-- a promise without errors -/
theorem FnOk.noX {P : Program} {w : World} {K : PySem.W.Frag} {mg : Str → Option Value} {base : Heap} {k : Nat} {f : Addr} {fd : FuncData} {ps : List Str} {sp : Sp} (F : FnOk P w K mg base (L2N.CX P w) k f fd ps sp) :
    FnOk P w K mg base CX0 k f fd ps (fun vs H Q _ => sp vs H Q fun _ _ _ => False) := by
  refine ⟨fun vs H Q E z => F.len _ _ _ _ z, fun A outer s H args us vs Q E hr e b r z => ?_⟩
  refine codeAny_mono (F.run A outer s H args us vs Q (fun _ _ _ => False) hr e b r z) fun r s' hq => ?_
  cases r with
  | error e =>
    obtain ⟨_, _, _, _, _, _, _, _, _, _, _, _, z⟩ := (show L2N.CX P w outer H s (fun _ _ _ => False) e s' from hq)
    exact z.elim
  | ok fl => cases fl <;> exact hq
theorem law_end {P : Program} {w : World} {K : PySem.W.Frag} {mg : Str → Option Value} {h : Heap} {fa : Addr} {fas : List He.Fa} {fns : List He.DefD} {params : Arguments} {body : List Stmt} {scope : Scope} {nm qual : Str} {k : Nat} {m : MF} {N : List Str} {fb : FS}
    (T : Hd fas fns K mg) (KX : K.In h) (hmg : mg ("law" : Str) = some (.ref fa)) (i j : Nat) (hg : fas[i]? = some (.glo "law")) (hd : fns[j]? = some ⟨(("law" : Str), none), nm, qual, params, body, scope, [], []⟩) (S : FnScope N ["script"] scope)
    (hb : ∀ (kV doc pm : Value) (an : Option Addr) (cdv ct : Value) (us : List Value), us.length = (["script"] : List Str).length → bindArgs (PySem.W.fnOf nm qual params body scope .none kV doc pm an cdv ct) ⟨us, []⟩ = pure ((["script"] : List Str).zip us))
    (der : ∀ (base : Heap) (X : Cx) (B : Gr) (W : WX), Bd X W P w K mg base k N scope → QSs X B W body fb) (impl : ∀ ds S, ds.length = 1 → m ds S ≠ .stk → ∃ n, bodyR (fb n (startE N ds) S) = m ds S)
    (tr : ∀ ns : List Int, ns.length ≤ 63 → ∃ S, m [.scr ns] [] = .ok (.bl true) S) :
    ∃ (K : PySem.W.Frag) (fd : FuncData) (sp : Sp), K.In h ∧ (∀ (s : Shared) (u : Value), BindsTo s fd ⟨[u], []⟩ [("script", u)]) ∧
        (∀ (H : Hp) (a : Addr) (ns : List Int), ns.length ≤ 63 → Only H → SqL K H a (ns.map V.int) → sp [.ref a] H (fun v _ => v = .bl true) fun _ _ _ => False) ∧
        ∀ base : Heap, K.In base → base.Ns mainGlobals mg → FnOk P w K mg base CX0 (k + 1) fa fd ["script"] sp := by
  obtain ⟨fd, F⟩ := T.c.def_ j hd
  have e := hmg.symm.trans (T.glo i hg)
  cases e
  refine ⟨K, fd, _, KX, fun s v => FunD.bindsA (ps := ["script"]) F hb s [v] rfl, ?_, fun base _ _ => FnOk.noX (fnOk_of (f := He.ga K "law") F S rfl (der base) impl)⟩
  intro H a ns hl _ hS
  obtain ⟨S', e⟩ := tr ns hl
  refine ⟨[.scr ns], [], H, [], rfl, ⟨Ext.refl _, rfl, fun i j a h => by simp at h, fun n a h => by simp at h, fun n a c h => by simp at h⟩, ⟨_, [], rfl, ⟨a, rfl, hS⟩, rfl⟩, ?_⟩
  rw [e]
  intro v H' Hf' ρ' _ _ d
  exact d
theorem cx_no (H : Hp) (s : Shared) (e : Value) (s' : Shared) : CX0 [] H s (fun _ _ _ => False) e s' → False := fun z => z
end DL

end

section
set_option autoImplicit false
set_option autoImplicit false
namespace DL
open PySem PySem.Spec PyProof.Rows L2

/-! ### several values at once, some of them new lists of one's own -/
def Ams (K : PySem.W.Frag) (H0 H Hf : Hp) (ρ : List Addr) : List Sl → List V → Prop
  | [], vs => vs = []
  | .fz d :: l, vs => ∃ v r, vs = v :: r ∧ Dt K Hf ρ d v ∧ Ams K H0 H Hf ρ l r
  | .own d :: l, vs => ∃ p r, vs = .ref p :: r ∧ H0 p = none ∧ Hf p = none ∧ p ∉ ρ ∧ OwnAt K H Hf ρ p d ∧ (∀ (i : Nat) e, l[i]? = some (.own e) → r[i]? ≠ some (.ref p)) ∧ Ams K H0 H Hf ρ l r
theorem Ams.own_none {K : PySem.W.Frag} {H0 H Hf : Hp} {ρ : List Addr} : ∀ {l : List Sl} {r : List V} {i : Nat} {e : D} {p : Addr}, Ams K H0 H Hf ρ l r → l[i]? = some (.own e) → r[i]? = some (.ref p) → H0 p = none
  | [], r, i, e, p, a, h1, h2 => by simp at h1
  | .fz d :: l, r, i, e, p, a, h1, h2 => by
    obtain ⟨v, r', rfl, _, a⟩ := a
    cases i with
    | zero => simp at h1
    | succ i => exact a.own_none (by simpa using h1) (by simpa using h2)
  | .own d :: l, r, i, e, p, a, h1, h2 => by
    obtain ⟨q, r', rfl, k1, _, _, _, _, a⟩ := a
    cases i with
    | zero => simp at h2; subst h2; exact k1
    | succ i => exact a.own_none (by simpa using h1) (by simpa using h2)
theorem Ams.back {K : PySem.W.Frag} {H0 H1 H Hf : Hp} {ρ : List Addr} (hh : ∀ p, H1 p = none → H0 p = none) : ∀ {l : List Sl} {r : List V}, Ams K H1 H Hf ρ l r → Ams K H0 H Hf ρ l r
  | [], r, a => a
  | .fz d :: l, r, a => by
    obtain ⟨v, r', rfl, k, a⟩ := a
    exact ⟨v, r', rfl, k, a.back hh⟩
  | .own d :: l, r, a => by
    obtain ⟨q, r', rfl, k1, k2, k3, k4, k5, a⟩ := a
    exact ⟨q, r', rfl, hh _ k1, k2, k3, k4, k5, a.back hh⟩
abbrev FM := Nat → Env → Store → Res (List Sl)
def PostAm (K : PySem.W.Frag) (W : WX) (σ : L2.St) (H Hf : Hp) (ρ : List Addr) (Q : List V → Hp → Prop) : Res (List Sl) → Prop
  | .ok d S' => ∀ v H' Hf' ρ', HR K H' Hf' ρ' S' → Tr H Hf ρ H' Hf' ρ' → Ams K H H' Hf' ρ' d v → Q v H'
  | .exc x S' => PostX K W σ H Hf ρ x S'
  | .stk => False
def QM (X : Cx) (B : Gr) (W : WX) (es : List Expr) (f : FM) : Prop := ∃ t, PA X es t ∧ ∀ n E S σ H Hf ρ Q, Rel X.K B E S σ H Hf ρ → PostAm X.K W σ H Hf ρ Q (f n E S) → t σ H Q
def fmNil : FM := fun _ _ S => .ok [] S
def fmFz (f : FE) (g : FM) : FM := fun n E S => (f n E S).bind fun d S1 => (g n E S1).bind fun ds S2 => .ok (.fz d :: ds) S2
def fmOwn (f : FE) (g : FM) : FM := fun n E S => (f n E S).bind fun d S1 => (g n E S1).bind fun ds S2 => .ok (.own d :: ds) S2
section
variable {X : Cx} {B : Gr} {W : WX} {pos : Pos} {e : Expr} {es : List Expr} {f : FE} {g : FM}
theorem tr_none {H Hf H' Hf' : Hp} {ρ ρ' : List Addr} (t : Tr H Hf ρ H' Hf' ρ') (p : Addr) (h : H' p = none) : H p = none := by
  cases z : H p with
  | none => rfl
  | some u => exact absurd h (t.alive p (by rw [z]; simp))
theorem m_nil : QM X B W [] fmNil := ⟨_, pa_nil, fun n E S σ H Hf ρ Q r p => p _ _ _ _ r.hr (Tr.refl _ _ _) rfl⟩
theorem m_fz (ha : QE X B W e f) (hr : QM X B W es g) (hs : starEach (e :: es) X.env = (false, eval e X.env) :: starEach es X.env) : QM X B W (e :: es) (fmFz f g) := by
  obtain ⟨t, h1, h2⟩ := ha
  obtain ⟨u, k1, k2⟩ := hr
  refine ⟨_, pa_cons h1 k1 hs, fun n E S σ H Hf ρ Q r p => h2 n E S σ H Hf ρ _ r ?_⟩
  unfold fmFz at p
  cases e1 : f n E S with
  | stk => rw [e1] at p; exact p
  | exc x S1 => rw [e1] at p; exact p
  | ok d S1 =>
    rw [e1] at p
    intro v H1 Hf1 ρ1 hr1 t1 w1
    refine k2 n E S1 σ H1 Hf1 ρ1 _ (r.step hr1 t1) ?_
    have p : PostAm X.K W σ H Hf ρ Q ((g n E S1).bind fun ds S2 => .ok (.fz d :: ds) S2) := p
    cases e2 : g n E S1 with
    | stk => rw [e2] at p; exact p
    | exc x S2 => rw [e2] at p; exact PostX.tr t1 p
    | ok ds S2 =>
      rw [e2] at p
      intro vs H2 Hf2 ρ2 hr2 t2 w2
      exact p _ _ _ _ hr2 (t1.trans t2) ⟨v, vs, rfl, w1.mono t2.hf t2.pre, w2.back (tr_none t1)⟩
theorem m_own (ha : QF X B W e f) (hr : QM X B W es g) (hs : starEach (e :: es) X.env = (false, eval e X.env) :: starEach es X.env) : QM X B W (e :: es) (fmOwn f g) := by
  obtain ⟨t, h1, h2⟩ := ha
  obtain ⟨u, k1, k2⟩ := hr
  refine ⟨_, pa_cons h1 k1 hs, fun n E S σ H Hf ρ Q r p => h2 n E S σ H Hf ρ _ r ?_⟩
  unfold fmOwn at p
  cases e1 : f n E S with
  | stk => rw [e1] at p; exact p
  | exc x S1 => rw [e1] at p; exact p
  | ok d S1 =>
    rw [e1] at p
    intro v H1 Hf1 ρ1 hr1 t1 q0 q1 q2 q3
    refine k2 n E S1 σ H1 Hf1 ρ1 _ (r.step hr1 t1) ?_
    have p : PostAm X.K W σ H Hf ρ Q ((g n E S1).bind fun ds S2 => .ok (.own d :: ds) S2) := p
    cases e2 : g n E S1 with
    | stk => rw [e2] at p; exact p
    | exc x S2 => rw [e2] at p; exact PostX.tr t1 p
    | ok ds S2 =>
      rw [e2] at p
      intro vs H2 Hf2 ρ2 hr2 t2 w2
      obtain ⟨o, ho⟩ := q3.there
      refine p _ _ _ _ hr2 (t1.trans t2) ⟨v, vs, rfl, q0, ?_, fun z => ?_, q3.mono q2 t2, fun i e' hi hz => ?_, w2.back (tr_none t1)⟩
      · cases z : Hf2 v with
        | none => rfl
        | some u =>
          rcases t2.fresh v (by rw [z]; simp) with z | z
          · exact absurd q1 z
          · rw [ho] at z; cases z
      · rcases t2.newh v z with z | z
        · exact q2 z
        · rw [ho] at z; cases z
      · have := w2.own_none hi hz
        rw [ho] at this; cases this
end
/-- one slot is set -/
theorem Rel.setSl {K : PySem.W.Frag} {B : Gr} {E : Env} {S : Store} {σ : L2.St} {H Hf : Hp} {ρ : List Addr} (r : Rel K B E S σ H Hf ρ) (i : Nat) {s : Sl} {v : V}
    (h : SlOk K B.H0 H Hf ρ (some (some v)) s) (hd : ∀ p d, s = .own d → v = .ref p → ∀ (j : Nat) e, E[j]? = some (some (.own e)) → σ[j]? ≠ some (some (.ref p))) :
    Rel K B (E.set i (some s)) S (σ.set i (some v)) H Hf ρ := by
  cases s with
  | fz d =>
    obtain ⟨u, h1, h2⟩ := h
    cases h1
    exact r.set i h2
  | own d =>
    obtain ⟨a, h1, h2, h3, h4, h5⟩ := h
    cases h1
    exact r.setOwn i h2 h3 h4 h5 (hd a d rfl rfl)
def fPm2 (i j : Nat) (f : FM) : FS := fun n E S => match f n E S with
  | .ok [a, b] S1 => .nx ((E.set i (some a)).set j (some b)) S1
  | .ok _ _ => .stk
  | .exc x S1 => .ex x E S1
  | .stk => .stk
def fPm3 (i j k : Nat) (f : FM) : FS := fun n E S => match f n E S with
  | .ok [a, b, c] S1 => .nx (((E.set i (some a)).set j (some b)).set k (some c)) S1
  | .ok _ _ => .stk
  | .exc x S1 => .ex x E S1
  | .stk => .stk
/-- the head of some values, and what one must know of it to set it -/
theorem Ams.head {K : PySem.W.Frag} {B : Gr} {E : Env} {S : Store} {σ : L2.St} {H Hf H' Hf' : Hp} {ρ ρ' : List Addr} {s : Sl} {l : List Sl} {vs : List V} (r : Rel K B E S σ H Hf ρ) (a : Ams K H H' Hf' ρ' (s :: l) vs) :
    ∃ v r', vs = v :: r' ∧ SlOk K B.H0 H' Hf' ρ' (some (some v)) s ∧ (∀ p d, s = .own d → v = .ref p → H p = none ∧ ∀ (i : Nat) e, l[i]? = some (.own e) → r'[i]? ≠ some (.ref p)) ∧ Ams K H H' Hf' ρ' l r' := by
  cases s with
  | fz d =>
    obtain ⟨v, r', rfl, k, a⟩ := a
    exact ⟨v, r', rfl, ⟨v, rfl, k⟩, (fun p d e => by cases e), a⟩
  | own d =>
    obtain ⟨q, r', rfl, k1, k2, k3, k4, k5, a⟩ := a
    refine ⟨.ref q, r', rfl, ⟨q, rfl, tr_none r.tr q k1, k2, k3, k4⟩, fun p d e e2 => ?_, a⟩
    cases e2
    exact ⟨k1, k5⟩
/-- no own thing of old lies where nothing lay -/
theorem Rel.oldOwn {K : PySem.W.Frag} {B : Gr} {E : Env} {S : Store} {σ : L2.St} {H Hf : Hp} {ρ : List Addr} (r : Rel K B E S σ H Hf ρ) {p : Addr} (h : H p = none) (j : Nat) (e : D) (he : E[j]? = some (some (.own e))) : σ[j]? ≠ some (some (.ref p)) := fun hj => by
  obtain ⟨a2, k1, _, _, _, k5⟩ := r.sl j _ he
  rw [k1] at hj
  cases hj
  obtain ⟨u, hu⟩ := k5.there
  rw [h] at hu; cases hu
section
variable {X : Cx} {B : Gr} {W : WX} {pos : Pos} {fa : FM}
theorem s_pm2 {i j : Nat} {x y : Str} {a b : Expr} {px py pt pt2 : Pos} {kt k2 : Nat} (cc : Cc X W) (lx : Ll X i x) (ly : Ll X j y) (hij : i ≠ j) (ha : QM X B W [a, b] fa)
    (hw : swappedStores [.Tuple [.Name x px, .Name y py] kt pt] (.Tuple [a, b] k2 pt2) X.env = pure (some [x, y]))
    (hs : swapsWithSole [.Tuple [.Name x px, .Name y py] kt pt] (.Tuple [a, b] k2 pt2) pos.line X.env = pure false) :
    QS X B W (.Assign [.Tuple [.Name x px, .Name y py] kt pt] (.Tuple [a, b] k2 pt2) pos) (fPm2 i j fa) := by
  obtain ⟨t, b1, b2⟩ := ha
  refine ⟨_, ps_par cc.calm cc.nd lx.ix ly.ix hij lx.loc ly.loc b1 hw hs, fun n E S σ H Hf ρ Q r p => b2 n E S σ H Hf ρ _ r ?_⟩
  unfold fPm2 at p
  cases e1 : fa n E S with
  | stk => rw [e1] at p; exact p
  | exc y S1 => rw [e1] at p; exact fun c od H' Hf' ρ' a b d => p c od σ H' Hf' ρ' (r.step a b) b.hf b.pre d
  | ok ds S1 =>
    rw [e1] at p
    intro vs H' Hf' ρ' h1 h2 w
    match ds, p, w with
    | [d1, d2], p, w =>
      obtain ⟨v1, r1, rfl, w1, u1, a2⟩ := w.head r
      obtain ⟨v2, r2, rfl, w2, u2, a3⟩ := a2.head r
      cases a3
      refine ⟨v1, v2, rfl, p _ _ _ _ (((r.step h1 h2).setSl i w1 fun p d e e2 j' e' he => ?_).setSl j w2 fun p d e e2 j' e' he => ?_) h2.hf h2.pre⟩
      · exact r.oldOwn (u1 p d e e2).1 j' e' he
      · rcases get_set_own he with ⟨rfl, x1, hl⟩ | ⟨hj, he⟩
        · cases x1
          rw [List.getElem?_set_self (by rw [← r.len]; exact hl)]
          intro z
          cases z
          exact (u1 _ e' rfl rfl).2 0 d (by subst e; rfl) (by subst e2; rfl)
        · rw [List.getElem?_set_ne hj]
          exact r.oldOwn (u2 p d e e2).1 j' e' he
theorem s_pm3 {i j k : Nat} {x y z : Str} {a b c : Expr} {px py pz pt pt2 : Pos} {kt k2 : Nat} (cc : Cc X W) (lx : Ll X i x) (ly : Ll X j y) (lz : Ll X k z) (hij : i ≠ j) (hik : i ≠ k) (hjk : j ≠ k) (ha : QM X B W [a, b, c] fa)
    (hw : swappedStores [.Tuple [.Name x px, .Name y py, .Name z pz] kt pt] (.Tuple [a, b, c] k2 pt2) X.env = pure (some [x, y, z]))
    (hs : swapsWithSole [.Tuple [.Name x px, .Name y py, .Name z pz] kt pt] (.Tuple [a, b, c] k2 pt2) pos.line X.env = pure false) :
    QS X B W (.Assign [.Tuple [.Name x px, .Name y py, .Name z pz] kt pt] (.Tuple [a, b, c] k2 pt2) pos) (fPm3 i j k fa) := by
  obtain ⟨t, b1, b2⟩ := ha
  refine ⟨_, ps_par3 cc.calm cc.nd lx.ix ly.ix lz.ix hij hik hjk lx.loc ly.loc lz.loc b1 hw hs, fun n E S σ H Hf ρ Q r p => b2 n E S σ H Hf ρ _ r ?_⟩
  unfold fPm3 at p
  cases e1 : fa n E S with
  | stk => rw [e1] at p; exact p
  | exc y S1 => rw [e1] at p; exact fun c od H' Hf' ρ' a b d => p c od σ H' Hf' ρ' (r.step a b) b.hf b.pre d
  | ok ds S1 =>
    rw [e1] at p
    intro vs H' Hf' ρ' h1 h2 w
    match ds, p, w with
    | [d1, d2, d3], p, w =>
      obtain ⟨v1, r1, rfl, w1, u1, a2⟩ := w.head r
      obtain ⟨v2, r2, rfl, w2, u2, a3⟩ := a2.head r
      obtain ⟨v3, r3, rfl, w3, u3, a4⟩ := a3.head r
      cases a4
      refine ⟨v1, v2, v3, rfl, p _ _ _ _ ((((r.step h1 h2).setSl i w1 fun p d e e2 j' e' he => ?_).setSl j w2 fun p d e e2 j' e' he => ?_).setSl k w3 fun p d e e2 j' e' he => ?_) h2.hf h2.pre⟩
      · exact r.oldOwn (u1 p d e e2).1 j' e' he
      · rcases get_set_own he with ⟨rfl, x1, hl⟩ | ⟨hj, he⟩
        · cases x1
          rw [List.getElem?_set_self (by rw [← r.len]; exact hl)]
          intro z
          cases z
          exact (u1 _ e' rfl rfl).2 0 d (by subst e; rfl) (by subst e2; rfl)
        · rw [List.getElem?_set_ne hj]
          exact r.oldOwn (u2 p d e e2).1 j' e' he
      · rcases get_set_own he with ⟨rfl, x1, hl⟩ | ⟨hj, he⟩
        · cases x1
          rw [List.getElem?_set_self (by simpa [← r.len] using hl)]
          intro z
          cases z
          exact (u2 _ e' rfl rfl).2 0 d (by subst e; rfl) (by subst e2; rfl)
        · rw [List.getElem?_set_ne hj]
          rcases get_set_own he with ⟨rfl, x1, hl⟩ | ⟨hj, he⟩
          · cases x1
            rw [List.getElem?_set_self (by rw [← r.len]; exact hl)]
            intro z
            cases z
            exact (u1 _ e' rfl rfl).2 1 d (by subst e; rfl) (by subst e2; rfl)
          · rw [List.getElem?_set_ne hj]
            exact r.oldOwn (u3 p d e e2).1 j' e' he
end
theorem Ams.step {K : PySem.W.Frag} {H0 H Hf H' Hf' : Hp} {ρ ρ' : List Addr} (t : Tr H Hf ρ H' Hf' ρ') : ∀ {l : List Sl} {r : List V}, Ams K H0 H Hf ρ l r → Ams K H0 H' Hf' ρ' l r
  | [], r, a => a
  | .fz d :: l, r, a => by
    obtain ⟨v, r', rfl, k, a⟩ := a
    exact ⟨v, r', rfl, k.mono t.hf t.pre, a.step t⟩
  | .own d :: l, r, a => by
    obtain ⟨q, r', rfl, k1, k2, k3, k4, k5, a⟩ := a
    obtain ⟨o, ho⟩ := k4.there
    refine ⟨q, r', rfl, k1, ?_, fun z => ?_, k4.mono k3 t, k5, a.step t⟩
    · cases z : Hf' q with
      | none => rfl
      | some u =>
        rcases t.fresh q (by rw [z]; simp) with z | z
        · exact absurd k2 z
        · rw [ho] at z; cases z
    · rcases t.newh q z with z | z
      · exact k3 z
      · rw [ho] at z; cases z
section
variable {X : Cx} {B : Gr} {W : WX} {pos : Pos} {fa : FM}
/-- a tuple is laid first: names that comprehensions read -/
theorem s_pmt2 {i j : Nat} {x y : Str} {a b : Expr} {px py pt pt2 : Pos} {kt k2 : Nat} (cc : Cc X W) (lx : Lr X i x) (ly : Lr X j y) (ha : QM X B W [a, b] fa)
    (hs : swapsWithSole [.Tuple [.Name x px, .Name y py] kt pt] (.Tuple [a, b] k2 pt2) pos.line X.env = pure false) (hw : swappedStores [.Tuple [.Name x px, .Name y py] kt pt] (.Tuple [a, b] k2 pt2) X.env = pure none)
    (h1 : (assignEach [.Tuple [.Name x px, .Name y py] kt pt] X.env).map (·.2) = [assign (.Tuple [.Name x px, .Name y py] kt pt) X.env])
    (ht1 : (assignEach [.Name x px, .Name y py] X.env).map (·.2) = assign (.Name x px) X.env :: (assignEach [.Name y py] X.env).map (·.2)) (ht2 : (assignEach [.Name y py] X.env).map (·.2) = assign (.Name y py) X.env :: (assignEach [] X.env).map (·.2))
    (hn : (assignEach [.Name x px, .Name y py] X.env).length = 2) (hst : (assignEach [.Name x px, .Name y py] X.env).findIdx? (·.1) = none) :
    QS X B W (.Assign [.Tuple [.Name x px, .Name y py] kt pt] (.Tuple [a, b] k2 pt2) pos) (fPm2 i j fa) := by
  obtain ⟨t, b1, b2⟩ := ha
  refine ⟨_, ps_asg (pe_tup b1) (pg_tup cc.calm (pgs_cons (pg_name lx.nd lx.ix lx.loc lx.fn) (pgs_cons (pg_name ly.nd ly.ix ly.loc ly.fn) pgs_nil ht2) ht1) hn hst) hs hw h1, fun n E S σ H Hf ρ Q r p => b2 n E S σ H Hf ρ _ r ?_⟩
  unfold fPm2 at p
  cases e1 : fa n E S with
  | stk => rw [e1] at p; exact p
  | exc y S1 => rw [e1] at p; exact fun c od H' Hf' ρ' a b d => p c od σ H' Hf' ρ' (r.step a b) b.hf b.pre d
  | ok ds S1 =>
    rw [e1] at p
    intro vs H1 Hf1 ρ1 g1 g2 w
    match ds, p, w with
    | [d1, d2], p, w =>
      obtain ⟨v1, r1, rfl, -, -, a2⟩ := w.head r
      obtain ⟨v2, r2, rfl, -, -, a3⟩ := a2.head r
      cases a3
      refine ⟨by show 2 ≤ sizeLine; decide, fun q hq => ⟨q, _, rfl, SqT.of upd_same, rfl, v1, _, rfl, v2, _, rfl, rfl, ?_⟩⟩
      have t3 : Tr H1 Hf1 ρ1 (upd H1 q (.tup [v1, v2])) Hf1 ρ1 := Tr.own hq
      have g3 : HR X.K (upd H1 q (.tup [v1, v2])) Hf1 ρ1 S1 := g1.own (g1.hnone hq) (g1.notin hq)
      have w := w.step t3
      have h2 := g2.trans t3
      obtain ⟨v1', r1', e3, w1, u1, a2⟩ := w.head r
      cases e3
      obtain ⟨v2', r2', e4, w2, u2, a3⟩ := a2.head r
      cases e4
      refine p _ _ _ _ (((r.step g3 h2).setSl i w1 fun p d e e2 j' e' he => ?_).setSl j w2 fun p d e e2 j' e' he => ?_) h2.hf h2.pre
      · exact r.oldOwn (u1 p d e e2).1 j' e' he
      · rcases get_set_own he with ⟨rfl, x1, hl⟩ | ⟨hj, he⟩
        · cases x1
          rw [List.getElem?_set_self (by rw [← r.len]; exact hl)]
          intro z
          cases z
          exact (u1 _ e' rfl rfl).2 0 d (by subst e; rfl) (by subst e2; rfl)
        · rw [List.getElem?_set_ne hj]
          exact r.oldOwn (u2 p d e e2).1 j' e' he
end
theorem sw2c {env : PySem.Env} {x y : Str} {px py pt pt2 : Pos} {kt k2 : Nat} {a b : Expr} (hk : env.scope.kind = .function) (hx : env.scope.names.lookup x = some .cell ∨ env.scope.names.lookup y = some .cell)
    (h1 : ([a, b].any fun | .Starred .. => true | _ => false) = false) :
    swappedStores [.Tuple [.Name x px, .Name y py] kt pt] (.Tuple [a, b] k2 pt2) env = pure none := by
  have hb : env.blockKind = .function := by unfold PySem.Env.blockKind; rw [hk]; rfl
  unfold swappedStores
  dsimp only
  generalize hA : List.all [a, b] (foldedForSure 8) = A at *
  generalize hB : List.all [a, b] (constantsAlone 8) = C at *
  rw [if_neg (by rw [hb]; exact Bool.false_ne_true)]
  refine Eq.trans (if_neg (fun z => Bool.false_ne_true (h1.symm.trans z))) ?_
  generalize hF : List.filterMap _ _ = F
  have e : F.length ≠ 2 := by
    rw [← hF]
    rw [List.filterMap_cons, List.filterMap_cons, List.filterMap_nil]
    dsimp only
    have c1 : (some NameKind.cell == some NameKind.local) = false := by decide
    rcases hx with hx | hx
    · have kx : env.kindOf x = some .cell := hx
      rw [kx, c1]
      simp only [Bool.false_and, Bool.false_eq_true, if_false]
      split <;> simp
    · have kx : env.kindOf y = some .cell := hx
      rw [kx, c1]
      simp only [Bool.false_and, Bool.false_eq_true, if_false]
      split <;> simp
  rw [if_pos (by simp [e])]
/-- a display of constants alone is folded: no names change places -/
theorem swk {env : PySem.Env} {ts vs : List Expr} {pt pt2 : Pos} {kt k2 : Nat} (h2 : vs.all (foldedForSure 8) = true) :
    swappedStores [.Tuple ts kt pt] (.Tuple vs k2 pt2) env = pure none := by
  unfold swappedStores
  dsimp only
  generalize hA : List.all vs (foldedForSure 8) = A at *
  subst h2
  split
  · rfl
  · refine Eq.trans ?_ rfl
    split
    · rfl
    · simp
/-! ### range with a step -/
def rngC (lo c : Int) (n : Nat) : List D := (List.range n).map fun i : Nat => .int (lo + (i : Int) * c)
def rng3? : List D → Option (List D)
  | [.int i, .int j, .int c] => if (decide (c ≠ 0) && decide (c.natAbs < 1073741824) && Builtin.Range.small i j c && decide (0 ≤ Builtin.Range.rangeSize i j c)) = true then some (rngC i c (Builtin.Range.rangeSize i j c).toNat) else none
  | _ => none
theorem walk_rngC {K : PySem.W.Frag} {lo c : Int} {n : Nat} {Hf : Hp} {ρ : List Addr} : WalkD K (Itc lo c n) (rngC lo c n) Hf ρ := by
  intro H1 Hf1 ρ1 S1 hr ex pr i
  unfold rngC
  refine ⟨fun d e => ?_, fun hl => (by simpa using hl : n ≤ i)⟩
  rw [List.getElem?_map] at e
  cases z : (List.range n)[i]? with
  | none => rw [z] at e; cases e
  | some j =>
    rw [z] at e
    obtain ⟨hj, ej⟩ := List.getElem?_eq_some_iff.mp z
    simp at hj ej
    cases e
    refine ⟨hj, fun x H2 y => ?_⟩
    obtain ⟨rfl, rfl⟩ := y
    exact ⟨Hf1, hr, Tr.refl _ _ _, by rw [ej]; rfl⟩
section
variable {X : Cx} {B : Gr} {W : WX} {tg : Expr} {pos p1 : Pos} {fa : FA}
theorem i_r3 {a b c : Expr} (hb : Blt X "range") (ha : QA X B W [a, b, c] fa) (hs : starEach [a, b, c] X.env = (false, eval a X.env) :: starEach [b, c] X.env) (hpl : (backTo pos (starEach [b, c] X.env)).any (·.1) = false) : QI X B W tg (.Call (.Name "range" p1) [a, b, c] [] pos) (fLift rng3? fa) := by
  obtain ⟨t, a1, a2⟩ := ha
  refine ⟨_, pi_range3 hb.gl hb.free a1 hs hpl, fun n E S σ H Hf ρ R r p => a2 n E S σ H Hf ρ _ r (lift_post p fun ds l S1 vs H' Hf' ρ' e h1 h2 w k => ?_)⟩
  unfold rng3? at e
  split at e
  · rename_i i j c
    split at e
    · rename_i hc
      cases e
      simp only [Bool.and_eq_true, decide_eq_true_eq] at hc
      obtain ⟨v1, r1, rfl, w1, w2⟩ := w
      obtain ⟨v2, r2, rfl, w2, w3⟩ := w2
      obtain ⟨v3, r3, rfl, w3, w4⟩ := w3
      cases w4
      have w1 : v1 = .int i := w1
      have w2 : v2 = .int j := w2
      have w3 : v3 = .int c := w3
      refine ⟨i, j, c, (Builtin.Range.rangeSize i j c).toNat, by rw [w1, w2, w3], ⟨hc.1.1.1, hc.1.1.2, hc.1.2, by omega⟩, k _ H' Hf' ρ' h1 h2 walk_rngC⟩
    · cases e
  · cases e
/-- a list's items with their places -/
def enumD (i : Nat) : List D → List D
  | [] => []
  | d :: l => .tup [.int i, d] :: enumD (i + 1) l
def enum? : List D → Option (List D)
  | [.lst l] => some (enumD 0 l)
  | _ => none
theorem enumD_get : ∀ {l : List D} {k i : Nat} {d : D}, (enumD k l)[i]? = some d → ∃ a, l[i]? = some a ∧ d = .tup [.int (k + i : Nat), a]
  | [], k, i, d, h => by simp [enumD] at h
  | a :: l, k, 0, d, h => by simp [enumD] at h; exact ⟨a, rfl, by rw [← h]; rfl⟩
  | a :: l, k, i + 1, d, h => by
    simp only [enumD, List.getElem?_cons_succ] at h
    obtain ⟨x, h1, h2⟩ := enumD_get h
    refine ⟨x, h1, ?_⟩
    have : k + 1 + i = k + (i + 1) := by omega
    rw [h2, this]
theorem enumD_len : ∀ (l : List D) (k : Nat), (enumD k l).length = l.length
  | [], _ => rfl
  | a :: l, k => by simp only [enumD, List.length_cons, enumD_len l]
theorem i_enum {e : Expr} {elts : List Expr} {kk : Nat} {tpos : Pos} (hb : Blt X "enumerate") (ha : QA X B W [e] fa) (hs : starEach [e] X.env = [(false, eval e X.env)]) : QI X B W (.Tuple elts kk tpos) (.Call (.Name "enumerate" p1) [e] [] pos) (fLift enum? fa) := by
  obtain ⟨t, a1, a2⟩ := ha
  refine ⟨_, pi_enum hb.gl hb.free a1 hs, fun n E S σ H Hf ρ R r p => a2 n E S σ H Hf ρ _ r (lift_post p fun ds l S1 vs H' Hf' ρ' e h1 h2 w k => ?_)⟩
  unfold enum? at e
  split at e
  · rename_i l
    cases e
    obtain ⟨v1, r1, rfl, w1, w2⟩ := w
    cases w2
    obtain ⟨a, xs, rfl, k1, k2⟩ := (show Dt X.K Hf' ρ' (.lst l) v1 from w1)
    refine ⟨a, xs, rfl, SqL.of (h1.sub _ _ k1), k _ H' Hf' ρ' h1 h2 ?_⟩
    intro H1 Hf1 ρ1 S1 hr ex pr i
    have g1 : SqL X.K H1 a xs := SqL.of (hr.sub _ _ (ex _ _ k1))
    refine ⟨fun d e => ?_, fun hl => ⟨xs, g1, ?_⟩⟩
    · obtain ⟨da, x1, rfl⟩ := enumD_get e
      obtain ⟨va, y1, y2⟩ := k2.get x1
      refine ⟨⟨xs, va, g1, y1⟩, fun x H2 y => ?_⟩
      obtain ⟨T, u1, rfl, hT, rfl, z1⟩ := y
      have z1 := z1 xs g1
      rw [y1] at z1; cases z1
      have := pair_new (a := .int (0 + i : Nat)) (x := .int (i : Nat)) hr hT (by simp [Dt]) (y2.mono ex pr)
      exact this
    · rw [enumD_len] at hl
      rw [← k2.length]
      omega
  · cases e
end
/-! ### in, among data of any depth -/
def gInD2 (a b : D) : Option Bool := match a.py, b.py with
  | some p, some (.tuple ds) => if (SeqAt.shaped p && SeqAt.shaped (.tuple ds)) = true then some (ds.any fun z => PyData.eqv z p) else none
  | _, _ => none
def gInX (a b : D) : Option D := (gInD2 a b).map D.bl
def gNinX (a b : D) : Option D := (gInD2 a b).map fun r => D.bl (!r)
theorem gInD2_inv {a b : D} {r : Bool} (h : gInD2 a b = some r) : ∃ p ds, a.py = some p ∧ b.py = some (.tuple ds) ∧ SeqAt.shaped p = true ∧ SeqAt.shaped (.tuple ds) = true ∧ r = ds.any fun z => PyData.eqv z p := by
  unfold gInD2 at h
  split at h
  · rename_i p ds e1 e2
    split at h
    · rename_i hc
      rw [Bool.and_eq_true] at hc
      cases h
      exact ⟨p, ds, e1, e2, hc.1, hc.2, rfl⟩
    · cases h
  · cases h
section
variable {X : Cx}
theorem opq_inX (hu : X.A.units + 65 < cLine) : OpQ X (compareOp .In) gInX := by
  refine ⟨fun x y H Q => ∃ d ds, Dp X.K H x d ∧ Dp X.K H y (.tuple ds) ∧ SeqAt.shaped d = true ∧ SeqAt.shaped (.tuple ds) = true ∧ Q (.bl (ds.any fun z => PyData.eqv z d)) H, ?_, fun a b x y H Hf ρ S Q d hr wa wb e q => ?_⟩
  · intro pins s σ H x y v u Q I rx ry h
    obtain ⟨d, ds, hd, he, sd, se, q⟩ := h
    obtain ⟨as, r1⟩ := Dp.reads I d x v hd rx
    obtain ⟨bs, r2⟩ := Dp.reads I (.tuple ds) y u he ry
    exact SeqAt.in_tuple_reads r2 r1 (SeqAt.canLay_of_shaped se) (SeqAt.canLay_of_shaped sd) (room_in_shaped sd hu) ⟨.bl _, H, I, rfl, q⟩
  · simp only [gInX, Option.map_eq_some_iff] at e
    obtain ⟨r, e, rfl⟩ := e
    obtain ⟨p, ds, e1, e2, s1, s2, rfl⟩ := gInD2_inv e
    exact ⟨p, ds, wa.dp hr e1, wb.dp hr e2, s1, s2, q _ _ _ _ hr (Tr.refl _ _ _) rfl⟩
theorem opq_ninX (hu : X.A.units + 65 < cLine) : OpQ X (compareOp .NotIn) gNinX := by
  refine ⟨fun x y H Q => ∃ d ds, Dp X.K H x d ∧ Dp X.K H y (.tuple ds) ∧ SeqAt.shaped d = true ∧ SeqAt.shaped (.tuple ds) = true ∧ Q (.bl (!ds.any fun z => PyData.eqv z d)) H, ?_, fun a b x y H Hf ρ S Q d hr wa wb e q => ?_⟩
  · intro pins s σ H x y v u Q I rx ry h
    obtain ⟨d, ds, hd, he, sd, se, q⟩ := h
    obtain ⟨as, r1⟩ := Dp.reads I d x v hd rx
    obtain ⟨bs, r2⟩ := Dp.reads I (.tuple ds) y u he ry
    exact SeqAt.notIn_tuple_reads r2 r1 (SeqAt.canLay_of_shaped se) (SeqAt.canLay_of_shaped sd) (room_in_shaped sd hu) ⟨.bl _, H, I, rfl, q⟩
  · simp only [gNinX, Option.map_eq_some_iff] at e
    obtain ⟨r, e, rfl⟩ := e
    obtain ⟨p, ds, e1, e2, s1, s2, rfl⟩ := gInD2_inv e
    exact ⟨p, ds, wa.dp hr e1, wb.dp hr e2, s1, s2, q _ _ _ _ hr (Tr.refl _ _ _) rfl⟩
end
theorem Wd.hu2 {X : Cx} {P : Program} {w : World} {K : PySem.W.Frag} {mg : Str → Option Value} {base : Heap} {k : Nat} (h : Wd X P w K mg base k) : X.A.units + 65 < cLine := by
  have := h.room.un
  omega
end DL

end

section
set_option autoImplicit false
set_option autoImplicit false
namespace DL
open PySem PySem.Spec PyProof.Rows L2
/-! ### is, is not of bools -/
def gIsB : D → D → Option D
  | .bl a, .bl b => some (.bl (decide (a = b)))
  | _, _ => none
def gIsNB : D → D → Option D
  | .bl a, .bl b => some (.bl (!decide (a = b)))
  | _, _ => none
section
variable {X : Cx}
theorem opq_isB : OpQ X (compareOp .Is) gIsB := by
  refine ⟨_, op_isBl, fun a b x y H Hf ρ S Q d hr wa wb e q => ?_⟩
  unfold gIsB at e
  split at e
  · cases e
    exact ⟨_, _, wa, wb, q _ _ _ _ hr (Tr.refl _ _ _) rfl⟩
  · cases e
theorem opq_isNB : OpQ X (compareOp .IsNot) gIsNB := by
  refine ⟨_, op_notBl, fun a b x y H Hf ρ S Q d hr wa wb e q => ?_⟩
  unfold gIsNB at e
  split at e
  · cases e
    exact ⟨_, _, wa, wb, q _ _ _ _ hr (Tr.refl _ _ _) rfl⟩
  · cases e
end
end DL

end

section
set_option autoImplicit false
set_option autoImplicit false
namespace DL
open PySem PySem.Spec PyProof.Rows L2
theorem pe_or {X : Cx} {e : Expr} {t1 t2 : TE} (h1 : PE X e t1) (h2 : PE X e t2) : PE X e (fun σ H Q => t1 σ H Q ∨ t2 σ H Q) :=
  ⟨fun pins s σ H Q I h => h.elim (h1.run pins s σ H Q I) (h2.run pins s σ H Q I)⟩
/-- what is never reached -/
def fStk : FE := fun _ _ _ => .stk
def fStkS : FS := fun _ _ _ => .stk
theorem pe_never {X : Cx} {e : Expr} : PE X e (fun _ _ _ => False) := ⟨fun _ _ _ _ _ _ h => h.elim⟩
theorem q_never {X : Cx} {B : Gr} {W : WX} {e : Expr} : QE X B W e fStk := ⟨_, pe_never, fun _ _ _ _ _ _ _ _ _ p => p⟩
theorem ps_never {X : Cx} {st : Stmt} : PS X st (fun _ _ _ => False) := ⟨fun _ _ _ _ _ _ h => h.elim⟩
theorem s_never {X : Cx} {B : Gr} {W : WX} {st : Stmt} : QS X B W st fStkS := ⟨_, ps_never, fun _ _ _ _ _ _ _ _ _ p => p⟩
/-! ### operators that make new lists -/
def OpF (X : Cx) (F : Value → Value → Sem Value) (g : D → D → Option D) : Prop := ∃ r, OpR X F r ∧
  ∀ a b x y H Hf ρ S Q d, HR X.K H Hf ρ S → Dw X.K H Hf ρ a x → Dw X.K H Hf ρ b y → g a b = some d →
    (∀ p H' Hf' ρ', HR X.K H' Hf' ρ' S → Tr H Hf ρ H' Hf' ρ' → H p = none → Hf' p = none → p ∉ ρ' → OwnAt X.K H' Hf' ρ' p d → Q (.ref p) H') → r x y H Q
theorem new_own {K : PySem.W.Frag} {H Hf : Hp} {ρ : List Addr} {S : Store} {d : D} {o : HO} {p : Addr} {Q : VK} (hr : HR K H Hf ρ S) (hp : H p = none) (hd : OwnAt K (upd H p o) Hf ρ p d)
    (q : ∀ p H' Hf' ρ', HR K H' Hf' ρ' S → Tr H Hf ρ H' Hf' ρ' → H p = none → Hf' p = none → p ∉ ρ' → OwnAt K H' Hf' ρ' p d → Q (.ref p) H') : Q (.ref p) (upd H p o) :=
  q p _ _ _ (hr.own (hr.hnone hp) (hr.notin hp)) (Tr.own hp) hp (hr.hnone hp) (hr.notin hp) hd
section
variable {X : Cx} {B : Gr} {W : WX} {pos : Pos} {a b : Expr} {fa fb : FE}
theorem q_twoF {g : D → D → Option D} {ta tb : TE} {r : R2}
    (ha : ∀ n E S σ H Hf ρ Q, Rel X.K B E S σ H Hf ρ → PostR X.K W σ H Hf ρ Q (fa n E S) → ta σ H Q)
    (hb : ∀ n E S σ H Hf ρ Q, Rel X.K B E S σ H Hf ρ → PostR X.K W σ H Hf ρ Q (fb n E S) → tb σ H Q)
    (hr : ∀ a b x y H Hf ρ S Q d, HR X.K H Hf ρ S → Dw X.K H Hf ρ a x → Dw X.K H Hf ρ b y → g a b = some d →
      (∀ p H' Hf' ρ', HR X.K H' Hf' ρ' S → Tr H Hf ρ H' Hf' ρ' → H p = none → Hf' p = none → p ∉ ρ' → OwnAt X.K H' Hf' ρ' p d → Q (.ref p) H') → r x y H Q)
    (n : Nat) (E : Env) (S : Store) (σ : L2.St) (H Hf : Hp) (ρ : List Addr) (Q : VK) (R : Rel X.K B E S σ H Hf ρ) (p : PostF X.K W σ H Hf ρ Q (fOp g fa fb n E S)) : tOp r ta tb σ H Q := by
  refine ha n E S σ H Hf ρ _ R ?_
  unfold fOp at p
  cases ea : fa n E S with
  | stk => rw [ea] at p; exact p
  | exc x S1 => rw [ea] at p; exact p
  | ok d1 S1 =>
    rw [ea] at p
    intro x H1 Hf1 ρ1 hr1 t1 w1
    refine hb n E S1 σ H1 Hf1 ρ1 _ (R.step hr1 t1) ?_
    have p : PostF X.K W σ H Hf ρ Q ((fb n E S1).bind fun b S2 => match g d1 b with | some d => .ok d S2 | none => .stk) := p
    cases eb : fb n E S1 with
    | stk => rw [eb] at p; exact p
    | exc x S2 => rw [eb] at p; exact PostX.tr t1 p
    | ok d2 S2 =>
      rw [eb] at p
      intro y H2 Hf2 ρ2 hr2 t2 w2
      have p : PostF X.K W σ H Hf ρ Q (match g d1 d2 with | some d => .ok d S2 | none => .stk) := p
      cases eg : g d1 d2 with
      | none => rw [eg] at p; exact p.elim
      | some d =>
        rw [eg] at p
        refine hr d1 d2 x y H2 Hf2 ρ2 S2 Q d hr2 (w1.mono t2 hr1) w2 eg fun q H' Hf' ρ' h1 h2 h0 h3 h4 h5 => ?_
        exact p q H' Hf' ρ' h1 ((t1.trans t2).trans h2) (tr_none (t1.trans t2) q h0) h3 h4 h5
theorem f_op {op : Operator} {g : D → D → Option D} (ho : OpF X (binaryOp op) g) (ha : QR X B W a fa) (hb : QR X B W b fb) : QF X B W (.BinOp a op b pos) (fOp g fa fb) := by
  obtain ⟨r, h1, h2⟩ := ho
  obtain ⟨ta, a1, a2⟩ := ha
  obtain ⟨tb, b1, b2⟩ := hb
  exact ⟨_, pe_op h1 a1 b1, q_twoF a2 b2 h2⟩
theorem opf_rep : OpF X (binaryOp .Mult) gRep := by
  refine ⟨_, op_rep, fun a b x y H Hf ρ S Q d hr wa wb e q => ?_⟩
  unfold gRep at e
  split at e
  · rename_i l k
    split at e
    · rename_i hc
      simp only [Bool.and_eq_true, decide_eq_true_eq] at hc
      cases e
      obtain ⟨z, vs, rfl, _, h1, h2⟩ := wa
      have wb : y = .int k := wb
      refine ⟨z, k, vs, rfl, wb, h1, hc.1.2, hc.1.1, by rw [← h2.length]; exact hc.2, fun p hp => ?_⟩
      exact new_own (d := .lst (List.replicate k.toNat l).flatten) hr hp ⟨_, upd_same, h2.rep _⟩ q
    · cases e
  · cases e
theorem opf_add : OpF X (binaryOp .Add) gAddL := by
  refine ⟨_, op_cat, fun a b x y H Hf ρ S Q d hr wa wb e q => ?_⟩
  unfold gAddL at e
  split at e
  · rename_i i j
    split at e
    · rename_i hc
      cases e
      obtain ⟨l, vs, rfl, _, h1, h2⟩ := wa
      obtain ⟨m, us, rfl, _, h3, h4⟩ := wb
      refine ⟨l, m, vs, us, rfl, rfl, h1, h3, by rw [← h2.length, ← h4.length]; exact hc, fun p hp => ?_⟩
      exact new_own (d := .lst (i ++ j)) hr hp ⟨_, upd_same, h2.append h4⟩ q
    · cases e
  · cases e
end
/-! ### dicts -/
/-- what a dict of data has for a key -/
def lkD (l : List (Key × D)) (k : Key) : Option D := (l.find? fun kv => decide (kv.1 = k)).map (·.2)
def puD (l : List (Key × D)) (k : Key) (d : D) : List (Key × D) :=
  if (l.any fun kv => decide (kv.1 = k)) = true then l.map (fun kv => if kv.1 = k then (kv.1, d) else kv) else l ++ [(k, d)]
def keyD : D → Option Key
  | .int i => some (.inl i)
  | .str s => some (.inr s)
  | _ => none
section
variable {K : PySem.W.Frag} {H Hf : Hp} {ρ : List Addr}
theorem keyD_v {d : D} {k : Key} {v : V} (h : keyD d = some k) (w : Dw K H Hf ρ d v) : v = kV k := by
  unfold keyD at h
  split at h <;> cases h
  · exact w
  · exact w
theorem Dks.look : ∀ {l : List (Key × D)} {vs : List (Key × V)} {k : Key}, Dks K Hf ρ l vs → (∀ d, lkD l k = some d → ∃ v, valV vs k = some v ∧ Dt K Hf ρ d v) ∧ (lkD l k = none → valV vs k = none)
  | [], vs, k, h => by
    simp only [Dks] at h; subst h
    exact ⟨fun d e => by simp [lkD] at e, fun _ => rfl⟩
  | (j, c) :: l, vs, k, h => by
    simp only [Dks] at h
    obtain ⟨v, r, rfl, h1, h2⟩ := h
    obtain ⟨i1, i2⟩ := Dks.look (k := k) h2
    by_cases e : j = k
    · refine ⟨fun d q => ?_, fun q => ?_⟩
      · simp [lkD, List.find?_cons, e] at q
        subst q
        exact ⟨v, valV_pos e, h1⟩
      · simp [lkD, List.find?_cons, e] at q
    · have e0 : lkD ((j, c) :: l) k = lkD l k := by simp [lkD, List.find?_cons, e]
      rw [e0, valV_neg e]
      exact ⟨i1, i2⟩
theorem Dks.any : ∀ {l : List (Key × D)} {vs : List (Key × V)} (k : Key), Dks K Hf ρ l vs → (l.any fun kv => decide (kv.1 = k)) = vs.any fun kv => decide (kv.1 = k)
  | [], vs, k, h => by simp only [Dks] at h; subst h; rfl
  | (j, c) :: l, vs, k, h => by
    simp only [Dks] at h
    obtain ⟨v, r, rfl, h1, h2⟩ := h
    simp only [List.any_cons, Dks.any k h2]
theorem Dks.len : ∀ {l : List (Key × D)} {vs : List (Key × V)}, Dks K Hf ρ l vs → l.length = vs.length
  | [], vs, h => by simp only [Dks] at h; subst h; rfl
  | (j, c) :: l, vs, h => by
    simp only [Dks] at h
    obtain ⟨v, r, rfl, h1, h2⟩ := h
    simp [Dks.len h2]
theorem Dks.keys : ∀ {l : List (Key × D)} {vs : List (Key × V)}, Dks K Hf ρ l vs → vs.map (·.1) = l.map (·.1)
  | [], vs, h => by simp only [Dks] at h; subst h; rfl
  | (j, c) :: l, vs, h => by
    simp only [Dks] at h
    obtain ⟨v, r, rfl, h1, h2⟩ := h
    simp [Dks.keys h2]
theorem Dks.snoc : ∀ {l : List (Key × D)} {vs : List (Key × V)} {k : Key} {d : D} {v : V}, Dks K Hf ρ l vs → Dt K Hf ρ d v → Dks K Hf ρ (l ++ [(k, d)]) (vs ++ [(k, v)])
  | [], vs, k, d, v, h, w => by simp only [Dks] at h; subst h; exact ⟨v, [], rfl, w, rfl⟩
  | (j, c) :: l, vs, k, d, v, h, w => by
    simp only [Dks] at h
    obtain ⟨u, r, rfl, h1, h2⟩ := h
    exact ⟨u, r ++ [(k, v)], rfl, h1, Dks.snoc h2 w⟩
theorem Dks.upd : ∀ {l : List (Key × D)} {vs : List (Key × V)} {k : Key} {d : D} {v : V}, Dks K Hf ρ l vs → Dt K Hf ρ d v → Dks K Hf ρ (l.map fun kv => if kv.1 = k then (kv.1, d) else kv) (vs.map fun kv => if kv.1 = k then (kv.1, v) else kv)
  | [], vs, k, d, v, h, w => by simp only [Dks] at h; subst h; rfl
  | (j, c) :: l, vs, k, d, v, h, w => by
    simp only [Dks] at h
    obtain ⟨u, r, rfl, h1, h2⟩ := h
    have ih := Dks.upd (k := k) h2 w
    simp only [List.map_cons]
    by_cases e : j = k
    · rw [if_pos e, if_pos e]; exact ⟨v, _, rfl, w, ih⟩
    · rw [if_neg e, if_neg e]; exact ⟨u, _, rfl, h1, ih⟩
theorem Dks.put {l : List (Key × D)} {vs : List (Key × V)} {k : Key} {d : D} {v : V} (h : Dks K Hf ρ l vs) (w : Dt K Hf ρ d v) : Dks K Hf ρ (puD l k d) (putK vs k v) := by
  unfold puD putK
  rw [h.any k]
  split
  · exact h.upd w
  · exact h.snoc w
end
theorem DGetR {H : Hp} {a : Addr} {kvs : List (Key × V)} {k : Key} (e : Rd H a (.dK kvs)) : DGet H a (kV k) (valV kvs k) := .inl ⟨kvs, k, e, rfl, rfl⟩
def gDGet : D → D → Option D
  | .dct l, k => (keyD k).bind fun k => lkD l k
  | _, _ => none
def gDIn : D → D → Option D
  | k, .dct l => (keyD k).map fun k => .bl (lkD l k).isSome
  | _, _ => none
def gDNin : D → D → Option D
  | k, .dct l => (keyD k).map fun k => .bl (!(lkD l k).isSome)
  | _, _ => none
section
variable {X : Cx} {B : Gr} {W : WX} {pos : Pos} {a b c : Expr} {fa fb fc : FE}
theorem q_dget (hu : X.A.units + 1 < cLine) (hs : NoSl b) (ha : QR X B W a fa) (hb : QR X B W b fb) : QE X B W (.Subscript a b pos) (fOp gDGet fa fb) := by
  obtain ⟨ta, a1, a2⟩ := ha
  obtain ⟨tb, b1, b2⟩ := hb
  refine ⟨_, pe_dget hu a1 b1 hs, q_two (r := fun x y H Q => ∃ a v, x = .ref a ∧ DGet H a y (some v) ∧ Q v H) a2 b2 fun d e x y H Hf ρ S Q r hr wa wb g q => ?_⟩
  unfold gDGet at g
  split at g
  · rename_i l
    obtain ⟨k, hk, g⟩ := Option.bind_eq_some_iff.mp g
    obtain ⟨p, vs, rfl, _, h1, h2⟩ := wa
    obtain ⟨v, h3, h4⟩ := (h2.look (k := k)).1 r g
    refine ⟨p, v, rfl, ?_, q v H Hf ρ hr (Tr.refl _ _ _) h4⟩
    rw [keyD_v hk wb, ← h3]
    exact DGetR h1
  · cases g
theorem din_r {K : PySem.W.Frag} {d e r : D} {x y : V} {H Hf : Hp} {ρ : List Addr} {l : List (Key × D)} {k : Key} (hk : keyD d = some k) (wa : Dw K H Hf ρ d x) (wb : Dw K H Hf ρ (.dct l) y) :
    ∃ p o, y = .ref p ∧ DGet H p x o ∧ o.isSome = (lkD l k).isSome := by
  obtain ⟨p, vs, rfl, _, h1, h2⟩ := wb
  refine ⟨p, valV vs k, rfl, by rw [keyD_v hk wa]; exact DGetR h1, ?_⟩
  obtain ⟨i1, i2⟩ := h2.look (k := k)
  cases e : lkD l k with
  | none => rw [i2 e]; rfl
  | some d => obtain ⟨v, h3, _⟩ := i1 d e; rw [h3]; rfl
theorem q_din (hu : X.A.units + 1 < cLine) (ha : QR X B W a fa) (hb : QR X B W b fb) (hm : behindInMarks .In b = false) : QE X B W (.Compare a [.In] [b] pos) (fOp gDIn fa fb) := by
  obtain ⟨ta, a1, a2⟩ := ha
  obtain ⟨tb, b1, b2⟩ := hb
  refine ⟨_, pe_cmp (pc_din hu a1 b1) hm, q_two (r := fun y x H Q => ∃ a o, x = .ref a ∧ DGet H a y o ∧ Q (.bl o.isSome) H) a2 b2 fun d e x y H Hf ρ S Q r hr wa wb g q => ?_⟩
  unfold gDIn at g
  split at g
  · rename_i l
    obtain ⟨k, hk, rfl⟩ := Option.map_eq_some_iff.mp g
    obtain ⟨p, o, h1, h2, h3⟩ := din_r (e := .non) (r := .non) hk wa wb
    refine ⟨p, o, h1, h2, ?_⟩
    rw [h3]
    exact q _ H Hf ρ hr (Tr.refl _ _ _) rfl
  · cases g
theorem q_dnin (hu : X.A.units + 1 < cLine) (ha : QR X B W a fa) (hb : QR X B W b fb) (hm : behindInMarks .NotIn b = false) : QE X B W (.Compare a [.NotIn] [b] pos) (fOp gDNin fa fb) := by
  obtain ⟨ta, a1, a2⟩ := ha
  obtain ⟨tb, b1, b2⟩ := hb
  refine ⟨_, pe_cmp (pc_dnotin hu a1 b1) hm, q_two (r := fun y x H Q => ∃ a o, x = .ref a ∧ DGet H a y o ∧ Q (.bl (!o.isSome)) H) a2 b2 fun d e x y H Hf ρ S Q r hr wa wb g q => ?_⟩
  unfold gDNin at g
  split at g
  · rename_i l
    obtain ⟨k, hk, rfl⟩ := Option.map_eq_some_iff.mp g
    obtain ⟨p, o, h1, h2, h3⟩ := din_r (e := .non) (r := .non) hk wa wb
    refine ⟨p, o, h1, h2, ?_⟩
    rw [h3]
    exact q _ H Hf ρ hr (Tr.refl _ _ _) rfl
  · cases g
/-- a bool as a test: a comparison that has its own rule -/
theorem t_pc {op : CmpOp} {t : TE} {g : FE} (hp : PC X op a b t) (hm : behindInMarks op b = false) (hq : ∀ n E S σ H Hf ρ Q, Rel X.K B E S σ H Hf ρ → PostE X.K W σ H Hf ρ Q (g n E S) → t σ H Q) : QT X B W (.Compare a [op] [b] pos) (fBool g) :=
  ⟨_, pt_cmp hp hm, fun n E S σ H Hf ρ Q r p => hq n E S σ H Hf ρ _ r (PostE.ofBool p)⟩
theorem t_din (hu : X.A.units + 1 < cLine) (ha : QR X B W a fa) (hb : QR X B W b fb) (hm : behindInMarks .In b = false) : QT X B W (.Compare a [.In] [b] pos) (fBool (fOp gDIn fa fb)) := by
  obtain ⟨ta, a1, a2⟩ := ha
  obtain ⟨tb, b1, b2⟩ := hb
  refine t_pc (pc_din hu a1 b1) hm (q_two (r := fun y x H Q => ∃ a o, x = .ref a ∧ DGet H a y o ∧ Q (.bl o.isSome) H) a2 b2 fun d e x y H Hf ρ S Q r hr wa wb g q => ?_)
  unfold gDIn at g
  split at g
  · rename_i l
    obtain ⟨k, hk, rfl⟩ := Option.map_eq_some_iff.mp g
    obtain ⟨p, o, h1, h2, h3⟩ := din_r (e := .non) (r := .non) hk wa wb
    refine ⟨p, o, h1, h2, ?_⟩
    rw [h3]
    exact q _ H Hf ρ hr (Tr.refl _ _ _) rfl
  · cases g
theorem t_dnin (hu : X.A.units + 1 < cLine) (ha : QR X B W a fa) (hb : QR X B W b fb) (hm : behindInMarks .NotIn b = false) : QT X B W (.Compare a [.NotIn] [b] pos) (fBool (fOp gDNin fa fb)) := by
  obtain ⟨ta, a1, a2⟩ := ha
  obtain ⟨tb, b1, b2⟩ := hb
  refine t_pc (pc_dnotin hu a1 b1) hm (q_two (r := fun y x H Q => ∃ a o, x = .ref a ∧ DGet H a y o ∧ Q (.bl (!o.isSome)) H) a2 b2 fun d e x y H Hf ρ S Q r hr wa wb g q => ?_)
  unfold gDNin at g
  split at g
  · rename_i l
    obtain ⟨k, hk, rfl⟩ := Option.map_eq_some_iff.mp g
    obtain ⟨p, o, h1, h2, h3⟩ := din_r (e := .non) (r := .non) hk wa wb
    refine ⟨p, o, h1, h2, ?_⟩
    rw [h3]
    exact q _ H Hf ρ hr (Tr.refl _ _ _) rfl
  · cases g
end
/-- {} -/
def fDNew : FE := fun _ _ S => .ok (.dct []) S
theorem f_dnew {X : Cx} {B : Gr} {W : WX} {pos : Pos} : QF X B W (.Dict [] [] pos) fDNew :=
  ⟨_, pe_dnewK, fun n E S σ H Hf ρ Q r p q hq => p q _ _ _ (r.hr.own (r.hr.hnone hq) (r.hr.notin hq)) (Tr.own hq) hq (r.hr.hnone hq) (r.hr.notin hq) ⟨[], upd_same, rfl⟩⟩
end DL

end

section
set_option autoImplicit false
set_option autoImplicit false
namespace DL
open PySem PySem.Spec PyProof.Rows L2
/-! ### d[k] = v, d of one's own -/
def fDSet (i : Nat) (fk fv : FE) : FS := fun n E S => match fv n E S with
  | .ok d S1 => match E[i]? with
    | some (some (.own (.dct l))) => match fk n E S1 with
      | .ok dk S2 => match keyD dk with
        | some k => if l.length < 1000000 then .nx (E.set i (some (.own (.dct (puD l k d))))) S2 else .stk
        | none => .stk
      | .exc x S1 => .ex x E S1
      | .stk => .stk
    | _ => .stk
  | .exc x S1 => .ex x E S1
  | .stk => .stk
section
variable {X : Cx} {B : Gr} {W : WX} {pos pos' p1 p2 p3 : Pos} {e k : Expr} {fe fk : FE} {x y : Str} {i j : Nat}
theorem s_dset (hu : X.A.units + 1 < cLine) (v : Vr X i x) (hk : QR X B W k fk) (he : QE X B W e fe) (hs : swapsWith e (some (.Subscript (.Name x p1) k p2)) pos.line X.env = pure false) :
    QS X B W (.Assign [.Subscript (.Name x p1) k p2] e pos) (fDSet i fk fe) := by
  obtain ⟨t, a1, a2⟩ := he
  obtain ⟨u, b1, b2⟩ := hk
  refine ⟨_, ps_dput hu (pe_var v.ix v.vis v.db v.cd) b1 a1 hs, fun n E S σ H Hf ρ Q r p => a2 n E S σ H Hf ρ _ r ?_⟩
  unfold fDSet at p
  cases e1 : fe n E S with
  | stk => rw [e1] at p; exact p
  | exc y S1 => rw [e1] at p; exact fun c od H' Hf' ρ' a b d => p c od σ H' Hf' ρ' (r.step a b) b.hf b.pre d
  | ok d S1 =>
    rw [e1] at p
    intro v H1 Hf1 ρ1 hr1 t1 w1
    have r1 := r.step hr1 t1
    dsimp only at p
    split at p
    · rename_i l el
      obtain ⟨a, h1, h2, h3, h4, vs, h5, h6⟩ := r1.sl i _ el
      refine ⟨.ref a, h1, b2 n E S1 σ H1 Hf1 ρ1 _ r1 ?_⟩
      cases e2 : fk n E S1 with
      | stk => rw [e2] at p; exact p
      | exc y S2 => rw [e2] at p; exact fun c od H' Hf' ρ' a b d => p c od σ H' Hf' ρ' (r1.step a b) (t1.hf.trans b.hf) (t1.pre.trans b.pre) d
      | ok dk S2 =>
        rw [e2] at p
        intro z H2 Hf2 ρ2 hr2 t2 w2
        have r2 := r1.step hr2 t2
        dsimp only at p
        split at p
        · rename_i kk hkk
          by_cases hl : l.length < 1000000
          · rw [if_pos hl] at p
            obtain ⟨a', g1, g2, g3, g4, us, g5, g6⟩ := r2.sl i _ el
            rw [h1] at g1; cases g1
            refine ⟨a, _, rfl, ?_, p _ _ _ _ (r2.updOwn el h1 g2 g3 g4 ⟨putK us kk v, upd_same, g6.put (w1.mono t2.hf t2.pre)⟩) (t1.hf.trans t2.hf) (t1.pre.trans t2.pre)⟩
            rw [keyD_v hkk w2]
            exact DPut.k g5 (by rw [← g6.len]; exact Nat.lt_of_lt_of_le hl (by decide))
          · rw [if_neg hl] at p; exact p.elim
        · exact p.elim
    · exact p.elim
/-! ### y = xs.pop() -/
def fPop (i j : Nat) : FS := fun n E S => match E[i]? with
  | some (some (.own (.lst l))) => match l[l.length - 1]? with
    | some d => .nx ((E.set i (some (.own (.lst l.dropLast)))).set j (some (.fz d))) S
    | none => .stk
  | _ => .stk
theorem Dts.dropLast {K : PySem.W.Frag} {Hf : Hp} {ρ : List Addr} {l : List D} {vs : List V} (h : Dts K Hf ρ l vs) : Dts K Hf ρ l.dropLast vs.dropLast := by
  rw [List.dropLast_eq_take, List.dropLast_eq_take, h.length]
  exact h.take _
theorem s_pop (v : Vr X i x) (l : Lr X j y) (hbase : attributeBase (.Name x p1) "pop" X.env (eval (.Name x p1) X.env) = eval (.Name x p1) X.env) (hline : (p2.endLine == p3.line) = true)
    (hs : swapsWith (.Call (.Attribute (.Name x p1) "pop" p2) [] [] p3) (some (.Name y pos')) pos.line X.env = pure false) :
    QS X B W (.Assign [.Name y pos'] (.Call (.Attribute (.Name x p1) "pop" p2) [] [] p3) pos) (fPop i j) := by
  refine ⟨_, ps_set l.nd l.ix l.loc (pe_bm0 PySem.F.plainAttrs_list PySem.F.slot_list_pop PySem.F.type_list_pop mt_pop (pe_var v.ix v.vis v.db v.cd) hbase hline) hs l.fn, fun n E S σ H Hf ρ Q r p => ?_⟩
  unfold fPop at p
  split at p
  · rename_i l el
    obtain ⟨a, h1, h2, h3, h4, vs, h5, h6⟩ := r.sl i _ el
    split at p
    · rename_i d hd
      obtain ⟨w, hw, hdw⟩ := h6.get hd
      refine ⟨.ref a, h1, .inl ⟨rfl, vs, SqL.of h5⟩, a, vs, w, rfl, rfl, h5, by rw [← h6.length]; exact hw, ?_⟩
      have r2 := r.updOwn el h1 h2 h3 h4 (o := .lst vs.dropLast) (d' := .lst l.dropLast) ⟨vs.dropLast, upd_same, h6.dropLast⟩
      exact p _ _ _ _ (r2.set j hdw) (Ext.refl _) (Pre.refl _)
    · exact p.elim
  · exact p.elim
/-! ### d.get(k, x) -/
def fDGet2 (fd fk fx : FE) : FE := fun n E S => (fd n E S).bind fun d S1 => match d with
  | .dct l => (fk n E S1).bind fun dk S2 => (fx n E S2).bind fun z S3 => match keyD dk with
    | some k => .ok ((lkD l k).getD z) S3
    | none => .stk
  | _ => .stk
theorem q_dget2 {o f : Expr} {fd fx : FE} {apos cpos : Pos} (hu : X.A.units + 1 < cLine) (ho : QR X B W o fd) (hk : QR X B W e fk) (hf : QE X B W f fx) (m : M2 X o "get" apos e f cpos) :
    QE X B W (.Call (.Attribute o "get" apos) [e, f] [] cpos) (fDGet2 fd fk fx) := by
  obtain ⟨to, a1, a2⟩ := ho
  obtain ⟨tk, b1, b2⟩ := hk
  obtain ⟨tf, c1, c2⟩ := hf
  refine ⟨_, pe_dget2 hu a1 b1 c1 m, fun n E S σ H Hf ρ Q r p => a2 n E S σ H Hf ρ _ r ?_⟩
  unfold fDGet2 at p
  cases e1 : fd n E S with
  | stk => rw [e1] at p; exact p
  | exc y S1 => rw [e1] at p; exact p
  | ok d S1 =>
    rw [e1] at p
    intro v H1 Hf1 ρ1 hr1 t1 w1
    have r1 := r.step hr1 t1
    cases d <;> try exact p.elim
    rename_i l
    obtain ⟨a, vs, rfl, g1, g2, g3⟩ := id w1
    refine ⟨a, rfl, .inl ⟨vs, g2⟩, b2 n E S1 σ H1 Hf1 ρ1 _ r1 ?_⟩
    have p : PostE X.K W σ H Hf ρ Q ((fk n E S1).bind fun dk S2 => (fx n E S2).bind fun z S3 => match keyD dk with
      | some k => .ok ((lkD l k).getD z) S3
      | none => .stk) := p
    cases e2 : fk n E S1 with
    | stk => rw [e2] at p; exact p
    | exc y S2 => rw [e2] at p; exact PostX.tr t1 p
    | ok dk S2 =>
      rw [e2] at p
      intro y H2 Hf2 ρ2 hr2 t2 w2
      have r2 := r1.step hr2 t2
      refine c2 n E S2 σ H2 Hf2 ρ2 _ r2 ?_
      have p : PostE X.K W σ H Hf ρ Q ((fx n E S2).bind fun z S3 => match keyD dk with
        | some k => .ok ((lkD l k).getD z) S3
        | none => .stk) := p
      cases e3 : fx n E S2 with
      | stk => rw [e3] at p; exact p
      | exc y S3 => rw [e3] at p; exact PostX.tr (t1.trans t2) p
      | ok z S3 =>
        rw [e3] at p
        intro q H3 Hf3 ρ3 hr3 t3 w3
        have p : PostE X.K W σ H Hf ρ Q (match keyD dk with
          | some k => .ok ((lkD l k).getD z) S3
          | none => .stk) := p
        split at p
        · rename_i k hk
          have wd := Dw.mono (t2.trans t3) hr1 w1
          have wk := Dw.mono t3 hr2 w2
          obtain ⟨a', vs', e', k1, k2, k3⟩ := wd
          cases e'
          obtain ⟨i1, i2⟩ := k3.look (k := k)
          rw [keyD_v hk wk]
          refine ⟨valV vs' k, DGetR k2, ?_⟩
          cases e4 : lkD l k with
          | none =>
            rw [i2 e4]
            rw [e4] at p
            exact p q H3 Hf3 ρ3 hr3 ((t1.trans t2).trans t3) w3
          | some d =>
            obtain ⟨v, h3, h4⟩ := i1 d e4
            rw [h3]
            rw [e4] at p
            exact p v H3 Hf3 ρ3 hr3 ((t1.trans t2).trans t3) h4
        · exact p.elim
end
/-! ### slices -/
abbrev FO := Nat → Env → Store → Res (Option Int)
def foN : FO := fun _ _ S => .ok none S
def foS (f : FE) : FO := fun n E S => (f n E S).bind fun d S1 => match d with
  | .int i => .ok (some i) S1
  | _ => .stk
def PostO (K : PySem.W.Frag) (W : WX) (σ : L2.St) (H Hf : Hp) (ρ : List Addr) (Q : Option Int → Hp → Prop) : Res (Option Int) → Prop
  | .ok d S' => ∀ H' Hf' ρ', HR K H' Hf' ρ' S' → Tr H Hf ρ H' Hf' ρ' → Q d H'
  | .exc x S' => PostX K W σ H Hf ρ x S'
  | .stk => False
def QO (X : Cx) (B : Gr) (W : WX) (e : Option Expr) (f : FO) : Prop := ∃ t, PO X e t ∧ ∀ n E S σ H Hf ρ Q, Rel X.K B E S σ H Hf ρ → PostO X.K W σ H Hf ρ Q (f n E S) → t σ H Q
def cutD (l : List D) (lo hi : Option Int) : List D := (l.drop (HT.sIx l.length 0 lo)).take (HT.sIx l.length l.length hi - HT.sIx l.length 0 lo)
def gSl (d : D) (lo hi : Option Int) : Option D := match d with
  | .lst l => some (.lst (cutD l lo hi))
  | .tup l => some (.tup (cutD l lo hi))
  | _ => none
def fSl (f : FE) (lo hi : FO) : FE := fun n E S => (f n E S).bind fun d S1 => (lo n E S1).bind fun a S2 => (hi n E S2).bind fun b S3 => match gSl d a b with
  | some r => .ok r S3
  | none => .stk
section
variable {X : Cx} {B : Gr} {W : WX} {pos p2 : Pos} {e : Expr} {fe : FE} {lo hi : Option Expr} {fl fh : FO}
theorem o_none : QO X B W none foN := ⟨_, po_none, fun n E S σ H Hf ρ Q r p => p H Hf ρ r.hr (Tr.refl _ _ _)⟩
theorem o_some (h : QE X B W e fe) : QO X B W (some e) (foS fe) := by
  obtain ⟨t, a1, a2⟩ := h
  refine ⟨_, po_some a1, fun n E S σ H Hf ρ Q r p => a2 n E S σ H Hf ρ _ r ?_⟩
  unfold foS at p
  cases e1 : fe n E S with
  | stk => rw [e1] at p; exact p
  | exc y S1 => rw [e1] at p; exact p
  | ok d S1 =>
    rw [e1] at p
    cases d <;> try exact p.elim
    rename_i i
    exact fun v H1 Hf1 ρ1 hr1 t1 w1 => ⟨i, w1, p H1 Hf1 ρ1 hr1 t1⟩
theorem Dts.cut {K : PySem.W.Frag} {Hf : Hp} {ρ : List Addr} {l : List D} {vs : List V} (h : Dts K Hf ρ l vs) (a b : Option Int) : Dts K Hf ρ (cutD l a b) (cutV vs a b) := by
  unfold cutD cutV
  rw [h.length]
  exact (h.drop _).take _
theorem q_slice (he : QR X B W e fe) (hl : QO X B W lo fl) (hh : QO X B W hi fh) : QE X B W (.Subscript e (.Slice lo hi none p2) pos) (fSl fe fl fh) := by
  obtain ⟨t, a1, a2⟩ := he
  obtain ⟨u, b1, b2⟩ := hl
  obtain ⟨w, c1, c2⟩ := hh
  refine ⟨_, pe_slice (sl_list.or sl_tupA) a1 b1 c1, fun n E S σ H Hf ρ Q r p => a2 n E S σ H Hf ρ _ r ?_⟩
  unfold fSl at p
  cases e1 : fe n E S with
  | stk => rw [e1] at p; exact p
  | exc y S1 => rw [e1] at p; exact p
  | ok d S1 =>
    rw [e1] at p
    intro v H1 Hf1 ρ1 hr1 t1 w1
    have r1 := r.step hr1 t1
    refine b2 n E S1 σ H1 Hf1 ρ1 _ r1 ?_
    have p : PostE X.K W σ H Hf ρ Q ((fl n E S1).bind fun a S2 => (fh n E S2).bind fun b S3 => match gSl d a b with
      | some r => .ok r S3
      | none => .stk) := p
    cases e2 : fl n E S1 with
    | stk => rw [e2] at p; exact p
    | exc y S2 => rw [e2] at p; exact PostX.tr t1 p
    | ok a S2 =>
      rw [e2] at p
      intro H2 Hf2 ρ2 hr2 t2
      have r2 := r1.step hr2 t2
      refine c2 n E S2 σ H2 Hf2 ρ2 _ r2 ?_
      have p : PostE X.K W σ H Hf ρ Q ((fh n E S2).bind fun b S3 => match gSl d a b with
        | some r => .ok r S3
        | none => .stk) := p
      cases e3 : fh n E S2 with
      | stk => rw [e3] at p; exact p
      | exc y S3 => rw [e3] at p; exact PostX.tr (t1.trans t2) p
      | ok b S3 =>
        rw [e3] at p
        intro H3 Hf3 ρ3 hr3 t3
        have p : PostE X.K W σ H Hf ρ Q (match gSl d a b with
          | some r => .ok r S3
          | none => .stk) := p
        have wd := Dw.mono (t2.trans t3) hr1 w1
        have tt := (t1.trans t2).trans t3
        cases d with
        | tup l =>
          obtain ⟨z, vs, rfl, h1, h2⟩ := (show Dt X.K Hf3 ρ3 (.tup l) v from wd)
          refine .inr ⟨z, vs, rfl, hr3.sub.sqT h1, fun ⟨y1, y2⟩ => ?_, fun _ q hq => ?_⟩
          · refine p _ _ _ _ hr3 tt ⟨z, vs, rfl, h1, ?_⟩
            have : cutD l a b = l := by
              unfold cutD
              rw [h2.length, y1, y2]
              simp [← h2.length]
            rw [this]; exact h2
          · refine new_ans (d := .tup (cutD l a b)) hr3 hq (fun Hf' ex hqq => ⟨q, _, rfl, SqT.of hqq, (h2.cut a b).mono ex (Pre.refl _)⟩) fun v H' Hf' ρ' k1 k2 k3 => p v H' Hf' ρ' k1 (tt.trans k2) k3
        | lst l =>
          obtain ⟨z, vs, rfl, _, h1, h2⟩ := wd
          refine .inl ⟨z, vs, rfl, SqL.of h1, fun q hq => ?_⟩
          exact new_ans (d := .lst (cutD l a b)) hr3 hq (fun Hf' ex hqq => ⟨q, _, rfl, hqq, (h2.cut a b).mono ex (Pre.refl _)⟩) fun v H' Hf' ρ' k1 k2 k3 => p v H' Hf' ρ' k1 (tt.trans k2) k3
        | _ => exact p.elim
end
end DL

end

section
set_option autoImplicit false
set_option autoImplicit false
namespace DL
open PySem PySem.Spec PyProof.Rows L2
section
variable {P : Program} {w : World} {A : Around} {E : Value → Shared → Prop} {s : Shared}
abbrev sob (w : World) : Obj := { cls := .type "set", dict := none, data := .set #[] 0 (.fresh 0 0 (!w.params.followText "set-order")) }
/-- set(xs), xs a list of ints: the table, told as SetR tells it -/
theorem set_ofList {l : Addr} {items : Array Value} (ns : List Int) {Q : Value → Shared → Prop} (hh : A.handled = none)
    (hl : s.heap.IsList l items) (hit : IntsAre items.toList ns) (hb : ns.length + 1 < scanBound)
    (h : ∀ (h' : Heap) (tk c : Nat), SetR w h' s.heap.objs.size (fun j => decide (j ∈ ns)) c → c ≤ ns.length →
      (∀ b o, s.heap.get? b = some o → h'.get? b = some o) → Q (.ref s.heap.objs.size) { s with heap := h', toks := tk }) :
    wpAny (model P w) A (call (.type "set") [.ref l]) Q E s := by
  have zn : items.size = ns.length := by
    have := IntsAre.length hit
    rwa [Array.length_toList] at this
  obtain ⟨cc, tl, hmro⟩ := F.called_set.mro
  have g1 := F.called_set.made
  have g2 := F.called_set.sub
  refine wpAny_call (codeAny_of_tree ?_)
  show wpAny _ _ (callAny (.type "set") _) _ _ _
  refine wpAny_pure ⟨Code.quiet_builtin _ (by decide +kernel), codeAny_builtin F.entry_type_call ?_⟩
  rw [Around.under_plain (weight_type_call_type "set" [.ref l] []) rfl]
  have g3 := F.called_set.notType
  have g4 := F.called_set.canCreate
  have g5 := F.typeCall_set_1 (.ref l)
  repeat (any_goals (first | assumption | wp_step))
  refine codeAny_mono (code_set_led1 (.ref l) (E := E)
    (Q₁ := fun obj s₁ => obj = .ref s.heap.objs.size ∧ s₁ = { s with heap := s.heap.push (sob w) }) ⟨rfl, rfl⟩) fun r s₁ hr => ?_
  cases r with
  | error e => exact hr
  | ok fl =>
    cases fl with
    | ret obj =>
      obtain ⟨rfl, rfl⟩ := hr
      have hS : (s.heap.push (sob w)).get? s.heap.objs.size = some (sob w) := Heap.get?_push_size _ rfl
      have hT : Shared.TypeIs { s with heap := s.heap.push (sob w) } (.ref s.heap.objs.size) "set" := ⟨_, hS, rfl⟩
      have j1 := F.called_set.init.lookup
      have j2 := F.called_set.init.bind (.ref s.heap.objs.size)
      repeat (any_goals (first | assumption | wp_step))
      refine codeAny_mono (codeAny_call_builtin (R := wants (fun r s₂ => r = .none ∧ ∃ h' tk c, s₂ = { s with heap := h', toks := tk } ∧
          SetR w h' s.heap.objs.size (fun j => decide (j ∈ ns)) c ∧ c ≤ ns.length ∧ (∀ b o, s.heap.get? b = some o → h'.get? b = some o)) E)
        F.called_set.init.plain F.entry_set_init (check_set_init_1 hT ?_)) fun r₂ s₂ hr₂ => ?_
      · obtain ⟨ol, hol, hcl, nl, hdl⟩ := hl
        obtain ⟨ocls, odict, odata, oslots⟩ := ol
        simp only at hcl hdl
        subst hcl hdl
        have k0 := Heap.get?_push_of_some (sob w) hol
        have k1 := F.sub_list_set
        have k2 := F.sub_list_frozenset
        have k3 : (Value.type "list" == Value.type "dict") = false := by decide
        have k4 : (s.heap.push (sob w)).IsList l items := ⟨_, k0, rfl, nl, rfl⟩
        unfold Builtin.«set.__init__» noKeywords Builtin.Frozenset.updateFrom
        generalize hPI : pyIter = PI
        wp_walk
        subst hPI
        refine wpAny_pyIter_list k4 ?_
        refine wpAny_bind (wpAny_runValue ?_)
        have k5 : l < s.heap.objs.size := Heap.lt_size hol
        have k6 : A.in1.in1.in1.handled = none := by simp [hh]
        have k7 : (s.heap.push (sob w)).objs.size = s.heap.objs.size + 1 := Heap.size_push ..
        have k8 : l ≠ (s.heap.push (sob w)).objs.size := by rw [k7]; exact Nat.ne_of_lt (Nat.lt_succ_of_lt k5)
        have k9 : s.heap.objs.size ∉ [(s.heap.push (sob w)).objs.size, l] := by
          rw [k7]
          intro z
          rcases List.mem_cons.mp z with z | z
          · exact absurd z (Nat.ne_of_lt (Nat.lt_succ_self _))
          · exact absurd (List.mem_singleton.mp z) (Nat.ne_of_gt k5)
        have hval : ∀ (i : Nat) (v : Value), items[i]? = some v → ∃ k t, ns[i]? = some k ∧ v = .int k t := fun i v hv => by
          have hi : i < ns.length := by rw [← zn]; exact (Array.getElem?_eq_some_iff.mp hv).1
          obtain ⟨t, e⟩ := PyProof.Rows.IntsAre.int_at hit i v (by rw [Array.getElem?_toList]; exact hv)
          refine ⟨ns[i], t, List.getElem?_eq_getElem hi, ?_⟩
          rw [e, List.getD_eq_getElem?_getD, List.getElem?_eq_getElem hi]
          rfl
        refine set_update_ints ((Walks.list k6 _ l k8 items).toS) s.heap.objs.size k9 ns zn hb hval (items.size - 0) 0 _ (by omega) (Nat.zero_le _)
          ⟨⟨_, Heap.get?_push_size _ rfl, rfl, rfl⟩, (k4.push _)⟩ ⟨0, Nat.le_refl 0, setR_new_at (Heap.get?_push_of_some _ hS)⟩ ?_
        intro s' c' hm hc' hS'
        obtain ⟨h', gg, dd, tk', oo⟩ := s'
        have eg : gg = s.gens := hm.gens
        have ed : dd = s.drawn := hm.drawn
        have eo : oo = s.os := hm.os
        subst eg ed eo
        show wpAny _ _ _ _ _ _
        refine wpAny_pure ?_
        show wpAny _ _ (ret Value.none) _ _ _
        rw [zn] at hc'
        refine wpAny_pure ⟨rfl, h', tk', c', rfl, hS', hc', fun b o e => ?_⟩
        have hb0 : b < s.heap.objs.size := Heap.lt_size e
        refine hm.heap b o (fun z => ?_) (Heap.get?_push_of_some _ (Heap.get?_push_of_some _ e))
        rcases List.mem_cons.mp z with z | z
        · exact absurd z (Nat.ne_of_lt hb0)
        · exact absurd (List.mem_singleton.mp z) (by rw [k7]; exact Nat.ne_of_lt (Nat.lt_succ_of_lt hb0))
      · cases r₂ with
        | error e => exact hr₂
        | ok fl₂ =>
          cases fl₂ with
          | ret r =>
            obtain ⟨rfl, h', tk, c', rfl, hS', hc', hk'⟩ := hr₂
            repeat (any_goals (first | assumption | wp_step))
            exact h _ _ _ hS' hc' hk'
          | _ => exact hr₂.elim
    | _ => exact hr.elim
end
end DL

end

section
set_option autoImplicit false
set_option autoImplicit false
namespace DL
open PySem PySem.Spec PyProof.Rows L2
section
variable {P : Program} {w : World} {A : Around} {E : Value → Shared → Prop} {s : Shared}
/-- sorted(found), any number of members -/
theorem sorted_set_any {a : Addr} {S : Int → Bool} {n : Nat} {Q : Value → Shared → Prop} (R : SetR w s.heap a S n) (hh : A.handled = none)
    (hQ : ∀ s' p (out : Array Value) (c : Nat) (ns : List Int), (∀ b o, s.heap.get? b = some o → s'.heap.get? b = some o) →
      s'.gens = s.gens → s'.os = s.os → s.heap.objs.size ≤ p → s'.heap.get? p = some (seqObj "list" out c) →
      IntsAre out.toList ns → ns.Pairwise (· < ·) → (∀ k, k ∈ ns ↔ S k = true) → ns.length = n → Q (.ref p) s') :
    wpAny (model P w) A (call (.builtin "sorted") [.ref a]) Q E s := by
  obtain ⟨o, es, ep, t, ho, hex, hd, g, nd, hm, hb, hf, hn, hr, hl⟩ := R
  refine Calls.call_function_entry kind_sorted plain_sorted entry_sorted (args_sorted1 _) ?_
  unfold Builtin.«sorted»
  refine wpAny_bind (m := checkCount "sorted" 1 1 _) (wpAny_pure ?_)
  refine wpAny_bind (collect_set (A := A.in1) hh ⟨o, ho, hex.1, hd⟩ hf hb hr hl fun s1 vs k1 hz g1 o1 pm => ?_)
  have vl : vs.length = n := by
    rw [pm.length_eq, List.length_map, Array.length_toList]
    exact hn
  have hI : IntsAre vs (vs.map Builtin.Re.reRawOf) := ints_of vs fun v hv => by
    obtain ⟨e, he, q⟩ := List.mem_map.mp (pm.mem_iff.mp hv)
    obtain ⟨k, tk, h1, _⟩ := g e he
    rw [← q]
    exact ⟨k, tk, h1⟩
  have pk : (vs.map Builtin.Re.reRawOf).Perm (es.toList.map keyOf) := by
    have := pm.map Builtin.Re.reRawOf
    rwa [List.map_map] at this
  have hfit : vs.length ≤ sizeLine := by
    rw [vl, ← hn]
    exact fits_of_scanBound hb
  refine wpAny_bind (wpAny_newList ?_ hfit)
  have hoL : (s1.heap.push (seqObj "list" vs.toArray 0)).get? s1.heap.objs.size = some (seqObj "list" vs.toArray 0) := Heap.get?_push_size _ rfl
  refine wpAny_bind (wpAny_holding (wpAny_call_entry slot_list_sort ⟨_, hoL, rfl⟩ entry_list_sort
    (SrtO.list_sort_ord SrtO.swo_int hoL hfit (fun h2 => SrtO.ints_sortable hI h2) fun out a1 a2 => ⟨_, rfl, ?_⟩) (args_list_sort _)))
  obtain ⟨b1, b2, b3⟩ := SrtO.ints_out hI a1 a2
  obtain ⟨c, hc⟩ := sortedHeap_at (vs := vs) (out := out.toArray) hoL
  have pn : (out.map SrtO.iv).Perm (es.toList.map keyOf) := b2.trans pk
  refine wpAny_pure ⟨_, rfl, hQ _ s1.heap.objs.size out.toArray c (out.map SrtO.iv) (fun b u e => ?_) g1 o1 hz hc b1
    (lt_of_le_nodup _ b3 (pn.nodup_iff.mpr nd)) (fun k => by rw [pn.mem_iff, ← hm k]) ?_⟩
  · have q := k1 b u e
    have hlt := Heap.lt_size q
    show (sortedHeap (s1.heap.push (seqObj "list" vs.toArray 0)) s1.heap.objs.size vs out.toArray).get? b = some u
    rw [sortedHeap_old (Nat.ne_of_lt hlt) (by rw [size_push']; exact Nat.lt_succ_of_lt hlt)]
    exact Heap.get?_push_of_some _ q
  · rw [pn.length_eq, List.length_map, Array.length_toList]; exact hn
end
/-- the members of a row of ints, ascending, without duplicates -/
def dedupI : List Int → List Int
  | [] => []
  | a :: l => if a ∈ l then dedupI l else a :: dedupI l
theorem mem_dedupI {x : Int} : ∀ {l : List Int}, x ∈ dedupI l ↔ x ∈ l
  | [] => by simp [dedupI]
  | a :: l => by
    unfold dedupI
    split
    · rename_i h
      rw [mem_dedupI (l := l), List.mem_cons]
      constructor
      · intro z; exact .inr z
      · rintro (rfl | z)
        · exact h
        · exact z
    · rw [List.mem_cons, mem_dedupI (l := l), List.mem_cons]
theorem dedupI_nodup : ∀ l : List Int, (dedupI l).Nodup
  | [] => List.nodup_nil
  | a :: l => by
    unfold dedupI
    split
    · exact dedupI_nodup l
    · rename_i h
      rw [List.nodup_cons]
      exact ⟨fun z => h (mem_dedupI.mp z), dedupI_nodup l⟩
def setI (l : List Int) : List Int := sortI (dedupI l)
theorem mem_setI {x : Int} {l : List Int} : x ∈ setI l ↔ x ∈ l := by
  unfold setI
  rw [(sortI_perm _).mem_iff, mem_dedupI]
theorem setI_asc (l : List Int) : (setI l).Pairwise (· < ·) :=
  lt_of_le_nodup _ (sortI_sorted _) ((sortI_perm _).nodup_iff.mpr (dedupI_nodup l))
theorem asc_eq : ∀ {l m : List Int}, l.Pairwise (· < ·) → m.Pairwise (· < ·) → (∀ x, x ∈ l ↔ x ∈ m) → l = m
  | [], [], _, _, _ => rfl
  | [], b :: m, _, _, h => by have := (h b).mpr (List.mem_cons_self ..); cases this
  | a :: l, [], _, _, h => by have := (h a).mp (List.mem_cons_self ..); cases this
  | a :: l, b :: m, h1, h2, h => by
    rw [List.pairwise_cons] at h1 h2
    have e : a = b := by
      rcases List.mem_cons.mp ((h a).mp (List.mem_cons_self ..)) with e | e
      · exact e
      · rcases List.mem_cons.mp ((h b).mpr (List.mem_cons_self ..)) with e2 | e2
        · exact e2.symm
        · have := h2.1 a e; have := h1.1 b e2; omega
    subst e
    congr 1
    refine asc_eq h1.2 h2.2 fun x => ?_
    constructor
    · intro hx
      rcases List.mem_cons.mp ((h x).mp (List.mem_cons_of_mem _ hx)) with e | e
      · subst e; have := h1.1 x hx; omega
      · exact e
    · intro hx
      rcases List.mem_cons.mp ((h x).mpr (List.mem_cons_of_mem _ hx)) with e | e
      · subst e; have := h2.1 x hx; omega
      · exact e
/-! ### sorted(set(xs)), len(set(xs)) -/
def gSetS : D → Option D
  | .lst l => if l.length ≤ 4000 then (ints? l).map fun ns => .lst ((setI ns).map D.int) else none
  | _ => none
def gSetN : D → Option D
  | .lst l => if l.length ≤ 4000 then (ints? l).map fun ns => .int (setI ns).length else none
  | _ => none
theorem fewS {n : Nat} (h : n ≤ 4000) : n + 1 < scanBound := by unfold scanBound; omega
section
variable {X : Cx} {B : Gr} {W : WX} {pos p p2 q : Pos} {a : Expr} {fa : FE}
theorem un_postF {g : D → Option D} {ta : TE} {r : V → Hp → VK → Prop} (a2 : ∀ n E S σ H Hf ρ Q, Rel X.K B E S σ H Hf ρ → PostR X.K W σ H Hf ρ Q (fa n E S) → ta σ H Q)
    (hr : ∀ a x H Hf ρ S Q d, HR X.K H Hf ρ S → Dw X.K H Hf ρ a x → g a = some d →
      (∀ v H' Hf' ρ', HR X.K H' Hf' ρ' S → Tr H Hf ρ H' Hf' ρ' → Dt X.K Hf' ρ' d v → Q v H') → r x H Q)
    (n : Nat) (E : Env) (S : Store) (σ : L2.St) (H Hf : Hp) (ρ : List Addr) (Q : VK) (R : Rel X.K B E S σ H Hf ρ) (p : PostE X.K W σ H Hf ρ Q (fUn g fa n E S)) : ta σ H (fun x H1 => r x H1 Q) := by
  refine a2 n E S σ H Hf ρ _ R ?_
  unfold fUn at p
  cases e1 : fa n E S with
  | stk => rw [e1] at p; exact p
  | exc y S1 => rw [e1] at p; exact p
  | ok d S1 =>
    rw [e1] at p
    intro v H1 Hf1 ρ1 hr1 t1 w1
    have p : PostE X.K W σ H Hf ρ Q (match g d with | some r => .ok r S1 | none => .stk) := p
    cases eg : g d with
    | none => rw [eg] at p; exact p.elim
    | some d2 =>
      rw [eg] at p
      exact hr d v H1 Hf1 ρ1 S1 Q d2 hr1 w1 eg fun v H' Hf' ρ' h1 h2 h3 => p v H' Hf' ρ' h1 (t1.trans h2) h3
theorem ints_of_vals' {ns : List Int} {its : List Value} (r : Vals (ns.map V.int) its) : IntsAre its ns := by
  have := r.ints; simpa using this
def rSetS (K : PySem.W.Frag) (x : V) (H : Hp) (Q : VK) : Prop := ∃ (l : Addr) (ns : List Int), x = .ref l ∧ SqL K H l (ns.map V.int) ∧ ns.length ≤ 4000 ∧ ∀ p, H p = none → Q (.ref p) (upd H p (.lst ((setI ns).map V.int)))
theorem pe_sortedSet {ta : TE} (hc : X.calm = true) (hg : Gl X "sorted") (hm : X.mg "sorted" = none) (hg2 : Gl X "set") (hm2 : X.mg "set" = none) (ha : PE X a ta) (na : starEach [a] X.env = (false, eval a X.env) :: starEach [] X.env) :
    PE X (.Call (.Name "sorted" p) [.Call (.Name "set" p2) [a] [] q] [] pos) (fun σ H Q => ta σ H fun x H1 => rSetS X.K x H1 Q) := by
  refine ⟨fun pins s σ H Q I h => ?_⟩
  refine Call_ (ld_blt I hg hm boot_sorted ?_)
  refine PyProof.Rows.callWith_builtin1 (PyProof.Rows.args_cons ?_ rfl) rfl rfl
  refine Call_ (ld_blt I hg2 hm2 boot_set ?_)
  refine PyProof.Rows.callWith_type1 (PyProof.Rows.args_cons (thn (ha.run pins s σ H _ I h) fun v s1 ⟨x, H1, I1, r1, q1⟩ => PyProof.Rows.args_nil ?_) na) na rfl
  obtain ⟨l, ns, rfl, hq, hl, q1⟩ := q1
  cases r1
  obtain ⟨its, r, pl, hz⟩ := I1.list hq
  refine set_ofList ns (I1.ok.hd hc) pl.isList (by simpa using ints_of_vals' r) (fewS hl) fun h' tk c hS hc' hk => ?_
  refine PyProof.Rows.args_nil ?_
  have I2 : Inv X pins σ H1 { s1 with heap := h', toks := tk } := I1.kept hk
  refine sorted_set_any (s := { s1 with heap := h', toks := tk }) hS (I2.ok.hd hc) fun s' pp out c ms k g o hp hgt hi hs hmm hln => ?_
  have em : ms = setI ns := asc_eq hs (setI_asc ns) fun z => by rw [hmm z, mem_setI]; simp
  subst em
  have hn : H1 pp = none := I2.hok.fresh hp
  have hfit : ((setI ns).map V.int).length ≤ sizeLine := by
    rw [List.length_map, hln]
    exact Nat.le_trans hc' (Nat.le_trans hl (by decide))
  have J : Inv X pins σ (upd H1 pp (.lst ((setI ns).map V.int))) { s1 with heap := s'.heap, gens := s'.gens, drawn := s'.drawn, toks := s'.toks } :=
    Inv.call (s := { s1 with heap := h', toks := tk }) (ch := []) I2 (Un.laid k hp hn) (I2.hok.laid k hp ⟨hfit, out.toList, c, vals_of_ints hi, hgt⟩) (by rw [g]; exact I2.bare) (fun _ z => nomatch z)
  have e : s' = { s1 with heap := s'.heap, gens := s'.gens, drawn := s'.drawn, toks := s'.toks } := by
    cases s'
    cases s1
    cases o
    rfl
  rw [e]
  exact ⟨.ref pp, _, J, rfl, q1 pp hn⟩
theorem q_sortedSet (hc : X.calm = true) (hb : Blt X "sorted") (hb2 : Blt X "set") (ha : QR X B W a fa) (na : starEach [a] X.env = (false, eval a X.env) :: starEach [] X.env) :
    QE X B W (.Call (.Name "sorted" p) [.Call (.Name "set" p2) [a] [] q] [] pos) (fUn gSetS fa) := by
  obtain ⟨ta, a1, a2⟩ := ha
  refine ⟨_, pe_sortedSet hc hb.gl hb.free hb2.gl hb2.free a1 na, un_postF a2 fun d x H Hf ρ S Q r hr w g k => ?_⟩
  unfold gSetS at g
  split at g
  · rename_i l
    split at g
    · rename_i hl
      obtain ⟨ns, hn, rfl⟩ := Option.map_eq_some_iff.mp g
      obtain ⟨z, e, hs⟩ := dw_ints w hn
      refine ⟨z, ns, e, hs, ?_, fun pp hp => new_ans (d := .lst ((setI ns).map D.int)) hr hp (fun Hf' ex hqq => ⟨pp, _, rfl, hqq, Dts.ofInts _⟩) k⟩
      rw [ints?_eq hn, List.length_map] at hl
      exact hl
    · cases g
  · cases g
/-- the number of the members -/
theorem pe_lenSet' {ta : TE} (hc : X.calm = true) (hg : Gl X "len") (hm : X.mg "len" = none) (hg2 : Gl X "set") (hm2 : X.mg "set" = none) (ha : PE X a ta) (na : starEach [a] X.env = (false, eval a X.env) :: starEach [] X.env) :
    PE X (.Call (.Name "len" p) [.Call (.Name "set" p2) [a] [] q] [] pos) (fun σ H Q => ta σ H fun x H1 => ∃ (l : Addr) (ns : List Int), x = .ref l ∧ SqL X.K H1 l (ns.map V.int) ∧ ns.length ≤ 4000 ∧ Q (.int (setI ns).length) H1) := by
  refine ⟨fun pins s σ H Q I h => ?_⟩
  refine Call_ (ld_blt I hg hm boot_len ?_)
  refine PyProof.Rows.callWith_builtin1 (PyProof.Rows.args_cons ?_ rfl) rfl rfl
  refine Call_ (ld_blt I hg2 hm2 boot_set ?_)
  refine PyProof.Rows.callWith_type1 (PyProof.Rows.args_cons (thn (ha.run pins s σ H _ I h) fun v s1 ⟨x, H1, I1, r1, q1⟩ => PyProof.Rows.args_nil ?_) na) na rfl
  obtain ⟨l, ns, rfl, hq, hl, q1⟩ := q1
  cases r1
  obtain ⟨its, r, pl, hz⟩ := I1.list hq
  refine set_ofList ns (I1.ok.hd hc) pl.isList (by simpa using ints_of_vals' r) (fewS hl) fun h' tk c hS hc' hk => ?_
  refine PyProof.Rows.args_nil ?_
  have I2 : Inv X pins σ H1 { s1 with heap := h', toks := tk } := I1.kept hk
  obtain ⟨o, es, ep, t, ho, hex, hd, g, nd, hmm, hb, hf, hn, hr, hll⟩ := hS
  have en : c = (setI ns).length := by
    have pp : (es.toList.map keyOf).Perm (setI ns) := (List.perm_ext_iff_of_nodup nd ((setI_asc ns).imp fun h => by omega)).mpr fun z => by
      rw [← hmm z, mem_setI]; simp
    have := pp.length_eq
    rw [List.length_map, Array.length_toList, hn] at this
    exact this
  refine call_len_set ho hex hd hf (by rw [hn]; have := fewS hl; unfold scanBound at *; omega) ⟨.int (setI ns).length, H1, I2.tok _, ⟨_, by rw [hn, en]⟩, q1⟩
end
end DL

end

section
set_option autoImplicit false
set_option autoImplicit false
namespace DL
open PySem PySem.Spec PyProof.Rows L2
section
variable {X : Cx} {B : Gr} {W : WX} {pos p p2 q : Pos} {a : Expr} {fa : FE}
theorem q_lenSet (hc : X.calm = true) (hb : Blt X "len") (hb2 : Blt X "set") (ha : QR X B W a fa) (na : starEach [a] X.env = (false, eval a X.env) :: starEach [] X.env) :
    QE X B W (.Call (.Name "len" p) [.Call (.Name "set" p2) [a] [] q] [] pos) (fUn gSetN fa) := by
  obtain ⟨ta, a1, a2⟩ := ha
  refine ⟨_, pe_lenSet' hc hb.gl hb.free hb2.gl hb2.free a1 na, un_postF a2 fun d x H Hf ρ S Q r hr w g k => ?_⟩
  unfold gSetN at g
  split at g
  · rename_i l
    split at g
    · rename_i hl
      obtain ⟨ns, hn, rfl⟩ := Option.map_eq_some_iff.mp g
      obtain ⟨z, e, hs⟩ := dw_ints w hn
      refine ⟨z, ns, e, hs, ?_, k _ _ _ _ hr (Tr.refl _ _ _) rfl⟩
      rw [ints?_eq hn, List.length_map] at hl
      exact hl
    · cases g
  · cases g
end
/-! ### sorted(d) -/
def keysI? : List (Key × D) → Option (List Int)
  | [] => some []
  | (.inl i, _) :: l => (keysI? l).map (i :: ·)
  | _ :: _ => none
theorem keysI?_eq : ∀ {l : List (Key × D)} {ns : List Int}, keysI? l = some ns → l.map (·.1) = ns.map Sum.inl
  | [], ns, h => by cases h; rfl
  | (.inl i, d) :: l, ns, h => by
    simp only [keysI?, Option.map_eq_some_iff] at h
    obtain ⟨m, h1, rfl⟩ := h
    simp [keysI?_eq h1]
  | (.inr i, d) :: l, ns, h => by cases h
section
variable {X : Cx}
/-- sorted(d) of a dict, all keys ints, any number of them -/
theorem call_sortedDX (hcalm : X.calm = true) : CallR X (.builtin "sorted") (fun xs H Q => ∃ (a : Addr) (kvs : List (Key × V)) (ks : List Int), xs = [.ref a] ∧ Rd H a (.dK kvs) ∧
    kvs.map (·.1) = ks.map Sum.inl ∧ ∀ (ys : List Int) (p : Addr), ys.Perm ks → ys.Pairwise (· ≤ ·) → H p = none → Q (.ref p) (upd H p (.lst (ys.map V.int)))) := by
  intro pins s σ H xs us Q I r q
  obtain ⟨a, kvs, ks, ex, hd, hks, q⟩ := q
  subst ex
  obtain ⟨u, eu, rx⟩ := vals1 r
  subst eu
  cases rx
  obtain ⟨z, lo, vs, rel, dd⟩ := dk_rd I.hok hd
  obtain ⟨ep, hat⟩ := dd.dictAt
  have hkeys : vs.map (·.1) = ks.map Sum.inl := rel.keys.symm.trans hks
  have hl : vs.length = ks.length := by
    have := congrArg List.length hkeys
    rwa [List.length_map, List.length_map] at this
  have hlv : kvs.length = vs.length := rel.length
  have h16 : vs.length ≤ sizeLine := by rw [← hlv]; exact z
  refine Calls.call_function_entry kind_sorted plain_sorted entry_sorted (args_sorted1 _) ?_
  unfold Builtin.«sorted»
  refine wpAny_bind (m := checkCount "sorted" 1 1 _) (wpAny_pure ?_)
  refine wpAny_bind (PySem.W.kdu_collect (A := X.A.in1) (PySem.W.kdl_dict (knd := mixKind X.prog X.w) (kvs := vs) (ep := ep) lo)
    (I.ok.hd hcalm) hat h16 fun h' tk acc hk hacc => ?_)
  have hal : acc.toList.length = ks.length := by rw [Array.length_toList, hacc.1, hl]
  have hS : IntsAre acc.toList ks := ints_each hal fun j v e => by
    obtain ⟨k, x, e1, e2⟩ := hacc.2 j v (by rw [← Array.getElem?_toList]; exact e)
    have e3 : (vs.map (·.1))[j]? = some k := by rw [List.getElem?_map, e1]; rfl
    rw [hkeys, List.getElem?_map] at e3
    cases e4 : ks[j]? with
    | none => rw [e4] at e3; cases e3
    | some y =>
      rw [e4] at e3
      have e5 : Sum.inl y = k := Option.some.inj e3
      subst e5
      rcases keyIs_shape (show keyIs (Sum.inl y) v = true from e2) with ⟨i, t, ek, ev⟩ | ⟨z, t, ek, ev⟩
      · cases ek
        exact ⟨y, t, rfl, ev⟩
      · cases ek
  have I1 : Inv X pins σ H { s with heap := h', toks := tk } := I.kept hk
  have hfit : acc.toList.length ≤ sizeLine := by rw [hal, ← hl]; exact h16
  refine wpAny_bind (wpAny_newList ?_ hfit)
  have hoL : (h'.push (seqObj "list" acc.toList.toArray 0)).get? h'.objs.size = some (seqObj "list" acc.toList.toArray 0) := Heap.get?_push_size _ rfl
  show wpAny _ _ _ _ _ { s with heap := h'.push (seqObj "list" acc.toList.toArray 0), toks := tk }
  refine wpAny_bind (wpAny_holding (wpAny_call_entry slot_list_sort ⟨_, hoL, rfl⟩ entry_list_sort
    (SrtO.list_sort_ord (s := { s with heap := h'.push (seqObj "list" acc.toList.toArray 0), toks := tk }) SrtO.swo_int hoL hfit (fun h2 => SrtO.ints_sortable hS h2) fun out a1 a2 => ⟨_, rfl, ?_⟩) (args_list_sort _)))
  obtain ⟨b1, b2, b3⟩ := SrtO.ints_out hS a1 a2
  obtain ⟨e', he'⟩ := sortedHeap_at (vs := acc.toList) (out := out.toArray) hoL
  have hlen : ((out.map SrtO.iv).map V.int).length ≤ sizeLine := by
    rw [List.length_map, b2.length_eq, ← hal]
    exact hfit
  refine wpAny_pure ⟨_, rfl, .ref h'.objs.size, upd H h'.objs.size (.lst ((out.map SrtO.iv).map V.int)), I1.laid (t' := tk) (fun b u e => ?_) (Nat.le_refl _)
    (show ObjOk X.prog X.w _ _ _ (.lst ((out.map SrtO.iv).map V.int)) from ⟨hlen, out, e', vals_of_ints b1, he'⟩), rfl, q _ _ b2 b3 (I1.hok.fresh (Nat.le_refl _))⟩
  have hb : b < h'.objs.size := Heap.lt_size e
  rw [sortedHeap_old (Nat.ne_of_lt hb) (by rw [size_push']; exact Nat.lt_succ_of_lt hb)]
  exact Heap.get?_push_of_some _ e
def gSortedD : List D → Option D
  | [.dct l] => (keysI? l).map fun ns => .lst ((sortI ns).map D.int)
  | _ => none
theorem cq_sortedD (hc : X.calm = true) : CallQ X (.builtin "sorted") gSortedD := by
  refine ⟨_, call_sortedDX hc, fun ds vs H Hf ρ S Q d hr w g k => ?_⟩
  unfold gSortedD at g
  split at g
  · rename_i l
    obtain ⟨ns, hn, rfl⟩ := Option.map_eq_some_iff.mp g
    obtain ⟨x, rfl, w1⟩ := dws1 w
    obtain ⟨a, us, e, _, h1, h2⟩ := (show ∃ a vs, x = .ref a ∧ a ∉ ρ ∧ Rd H a (.dK vs) ∧ Dks X.K Hf ρ l vs from w1)
    subst e
    refine ⟨a, us, ns, rfl, h1, by rw [h2.keys, keysI?_eq hn], fun ys pp hp hs hq => ?_⟩
    rw [sortI_eq hp hs]
    exact new_ans (d := .lst ((sortI ns).map D.int)) hr hq (fun Hf' ex hqq => ⟨pp, _, rfl, hqq, Dts.ofInts _⟩) k
  · cases g
def gLenD : List D → Option D
  | [.dct l] => some (.int l.length)
  | _ => none
theorem call_lenDR : CallR X (.builtin "len") (fun xs H Q => ∃ a kvs, xs = [V.ref a] ∧ Rd H a (.dK kvs) ∧ Q (.int kvs.length) H) := by
  intro pins s σ H xs us Q I r h
  obtain ⟨a, kvs, rfl, ha, q⟩ := h
  obtain ⟨u, rfl, ru⟩ := vals1 r
  cases ru
  exact d_len I ha fun t s' I' => ⟨.int kvs.length, H, I', ⟨t, rfl⟩, q⟩
theorem cq_lenD : CallQ X (.builtin "len") gLenD := by
  refine ⟨_, call_lenDR, fun ds vs H Hf ρ S Q d hr w g k => ?_⟩
  unfold gLenD at g
  split at g
  · rename_i l
    cases g
    obtain ⟨x, rfl, w1⟩ := dws1 w
    obtain ⟨a, us, e, _, h1, h2⟩ := (show ∃ a vs, x = .ref a ∧ a ∉ ρ ∧ Rd H a (.dK vs) ∧ Dks X.K Hf ρ l vs from w1)
    subst e
    refine ⟨a, us, rfl, h1, ?_⟩
    rw [← h2.len]
    exact k _ _ _ _ hr (Tr.refl _ _ _) rfl
  · cases g
end
end DL

end

section
set_option autoImplicit false
set_option autoImplicit false
namespace DL
open PySem PySem.Spec PyProof.Rows L2
theorem Wd.hu1 {X : Cx} {P : Program} {w : World} {K : PySem.W.Frag} {mg : Str → Option Value} {base : Heap} {k : Nat} (h : Wd X P w K mg base k) : X.A.units + 1 < cLine := by
  have := h.hu; omega
/-! ### xs.index(e), xs.count(e) -/
def idxF (x : D) : List D → Nat → Option Nat
  | [], _ => none
  | y :: l, i => if eqF y x = true then some i else idxF x l (i + 1)
theorem idxF_spec {x : D} : ∀ {l : List D} {i j : Nat}, idxF x l i = some j → i ≤ j ∧ (∃ y, l[j - i]? = some y ∧ eqF y x = true) ∧ ∀ m y, m < j - i → l[m]? = some y → eqF y x = false
  | [], i, j, h => by cases h
  | y :: l, i, j, h => by
    unfold idxF at h
    by_cases c : eqF y x = true
    · rw [if_pos c] at h
      cases h
      refine ⟨Nat.le_refl _, ⟨y, by simp, c⟩, fun m z hm => by omega⟩
    · rw [if_neg c] at h
      obtain ⟨h1, ⟨z, h2, h3⟩, h4⟩ := idxF_spec h
      refine ⟨by omega, ⟨z, ?_, h3⟩, fun m u hm hu => ?_⟩
      · have : j - i = (j - (i + 1)) + 1 := by omega
        rw [this, List.getElem?_cons_succ]; exact h2
      · cases m with
        | zero => simp at hu; subst hu; simpa using c
        | succ m => exact h4 m u (by omega) (by simpa using hu)
def gIndex : D → D → Option D
  | .lst l, x => if (flatD x && l.all flatD) = true then (idxF x l 0).map fun j => .int (j : Nat) else none
  | _, _ => none
def fIndex (fo fe : FE) : FE := fun n E S => (fo n E S).bind fun d S1 => match d with
  | .lst l => (fe n E S1).bind fun b S2 => match gIndex (.lst l) b with
    | some d => .ok d S2
    | none => .stk
  | _ => .stk
section
variable {X : Cx} {B : Gr} {W : WX} {o e : Expr} {fo fe : FE} {apos cpos : Pos}
theorem q_index (ho : QR X B W o fo) (he : QE X B W e fe) (hbase : attributeBase o "index" X.env (eval o X.env) = eval o X.env)
    (hfew : ((backTo cpos (starEach [e] X.env)).all (fun x => !x.1) && (backToKw cpos (keywordEach [] X.env)).all (fun x => x.1.isSome)
      && decide (([e] : List Expr).length + ([] : List Keyword).length + (if ([] : List Keyword).isEmpty then 0 else 1) < 30)) = true)
    (hline : (apos.endLine == cpos.line) = true) (hs : starEach [e] X.env = (false, eval e X.env) :: starEach [] X.env) (hplain : (backTo cpos (starEach [] X.env)).any (·.1) = false) :
    QE X B W (.Call (.Attribute o "index" apos) [e] [] cpos) (fIndex fo fe) := by
  obtain ⟨to, a1, a2⟩ := ho
  obtain ⟨te, b1, b2⟩ := he
  refine ⟨_, pe_bm PySem.F.plainAttrs_list PySem.F.slot_list_index PySem.F.type_list_index mt_index a1 (pa_cons b1 pa_nil hs) hbase hfew hline hs hplain, fun n E S σ H Hf ρ Q r p => a2 n E S σ H Hf ρ _ r ?_⟩
  unfold fIndex at p
  cases e1 : fo n E S with
  | stk => rw [e1] at p; exact p
  | exc y S1 => rw [e1] at p; exact p
  | ok d S1 =>
    rw [e1] at p
    intro v H1 Hf1 ρ1 hr1 t1 w1
    have r1 := r.step hr1 t1
    cases d with
    | lst l =>
      have p1 : PostE X.K W σ H Hf ρ Q ((fe n E S1).bind fun b S2 => match gIndex (.lst l) b with | some d => .ok d S2 | none => .stk) := p
      clear p
      obtain ⟨a, vs, rfl, g1, g2, g3⟩ := id w1
      refine ⟨.inl ⟨rfl, vs, SqL.of g2⟩, b2 n E S1 σ H1 Hf1 ρ1 _ r1 ?_⟩
      cases e2 : fe n E S1 with
      | stk => rw [e2] at p1; exact p1
      | exc y S2 => rw [e2] at p1; exact PostX.tr t1 p1
      | ok dk S2 =>
        rw [e2] at p1
        intro y H2 Hf2 ρ2 hr2 t2 w2
        have p2 : PostE X.K W σ H Hf ρ Q (match gIndex (.lst l) dk with | some d => .ok d S2 | none => .stk) := p1
        clear p1
        obtain ⟨a', vs', e', k1, k2, k3⟩ := Dw.mono t2 hr1 w1
        cases e'
        unfold gIndex at p2
        dsimp only at p2
        by_cases hc : (flatD dk && l.all flatD) = true
        · rw [if_pos hc] at p2
          rw [Bool.and_eq_true] at hc
          cases hj : idxF dk l 0 with
          | none => rw [hj] at p2; exact p2.elim
          | some j =>
            rw [hj] at p2
            obtain ⟨_, ⟨z, h2, h3⟩, h4⟩ := idxF_spec hj
            simp only [Nat.sub_zero] at h2 h4
            obtain ⟨zv, z1, z2⟩ := k3.get h2
            have fz : flatD z = true := (List.all_eq_true.mp hc.2) z (List.mem_of_getElem? h2)
            refine ⟨a, vs', y, j, zv, rfl, rfl, SqL.of k2, flat_v w2 hc.1, ?_, z1, by rw [eqF_v z2 w2 fz hc.1]; exact h3, fun m z' hm hz => ?_, ?_⟩
            · exact (inF_v (l := l) (vs := vs') w2 hc.1 k3 hc.2).2
            · obtain ⟨dz, y1, y2⟩ := k3.get' hz
              have fz : flatD dz = true := (List.all_eq_true.mp hc.2) dz (List.mem_of_getElem? y1)
              rw [eqF_v y2 w2 fz hc.1]
              exact h4 m dz hm y1
            · exact p2 _ H2 Hf2 ρ2 hr2 (t1.trans t2) rfl
        · rw [if_neg hc] at p2; exact p2.elim
    | _ => exact p.elim
end
end DL

end

section
set_option autoImplicit false
set_option autoImplicit false
namespace DL
open PySem PySem.Spec PyProof.Rows L2
/-! ### xs.count(n), xs[::-1] -/
def gCount : D → D → Option D
  | .lst l, .int k => (ints? l).map fun ns => .int (ns.count k : Nat)
  | _, _ => none
def fCount (fo fe : FE) : FE := fun n E S => (fo n E S).bind fun d S1 => match d with
  | .lst l => (fe n E S1).bind fun b S2 => match gCount (.lst l) b with
    | some d => .ok d S2
    | none => .stk
  | _ => .stk
def gRevL : D → Option D
  | .lst l => some (.lst l.reverse)
  | _ => none
section
variable {X : Cx} {B : Gr} {W : WX} {o e : Expr} {fo fe : FE} {apos cpos : Pos}
theorem q_count (ho : QR X B W o fo) (he : QE X B W e fe) (hbase : attributeBase o "count" X.env (eval o X.env) = eval o X.env)
    (hfew : ((backTo cpos (starEach [e] X.env)).all (fun x => !x.1) && (backToKw cpos (keywordEach [] X.env)).all (fun x => x.1.isSome)
      && decide (([e] : List Expr).length + ([] : List Keyword).length + (if ([] : List Keyword).isEmpty then 0 else 1) < 30)) = true)
    (hline : (apos.endLine == cpos.line) = true) (hs : starEach [e] X.env = (false, eval e X.env) :: starEach [] X.env) (hplain : (backTo cpos (starEach [] X.env)).any (·.1) = false) :
    QE X B W (.Call (.Attribute o "count" apos) [e] [] cpos) (fCount fo fe) := by
  obtain ⟨to, a1, a2⟩ := ho
  obtain ⟨te, b1, b2⟩ := he
  refine ⟨_, pe_bm PySem.F.plainAttrs_list PySem.F.slot_list_count PySem.F.type_list_count mt_lcount a1 (pa_cons b1 pa_nil hs) hbase hfew hline hs hplain, fun n E S σ H Hf ρ Q r p => a2 n E S σ H Hf ρ _ r ?_⟩
  unfold fCount at p
  cases e1 : fo n E S with
  | stk => rw [e1] at p; exact p
  | exc y S1 => rw [e1] at p; exact p
  | ok d S1 =>
    rw [e1] at p
    intro v H1 Hf1 ρ1 hr1 t1 w1
    have r1 := r.step hr1 t1
    cases d with
    | lst l =>
      have p1 : PostE X.K W σ H Hf ρ Q ((fe n E S1).bind fun b S2 => match gCount (.lst l) b with | some d => .ok d S2 | none => .stk) := p
      clear p
      obtain ⟨a, vs, rfl, g1, g2, g3⟩ := id w1
      refine ⟨.inl ⟨rfl, vs, SqL.of g2⟩, b2 n E S1 σ H1 Hf1 ρ1 _ r1 ?_⟩
      cases e2 : fe n E S1 with
      | stk => rw [e2] at p1; exact p1
      | exc y S2 => rw [e2] at p1; exact PostX.tr t1 p1
      | ok dk S2 =>
        rw [e2] at p1
        intro y H2 Hf2 ρ2 hr2 t2 w2
        have p2 : PostE X.K W σ H Hf ρ Q (match gCount (.lst l) dk with | some d => .ok d S2 | none => .stk) := p1
        clear p1
        have w3 := Dw.mono t2 hr1 w1
        unfold gCount at p2
        split at p2
        · rename_i d0 eg
          split at eg
          · rename_i l' k el
            cases el
            obtain ⟨ns, hn, rfl⟩ := Option.map_eq_some_iff.mp eg
            obtain ⟨z, ez, hs2⟩ := dw_ints w3 hn
            cases ez
            exact ⟨a, ns, k, rfl, by rw [show y = .int k from w2], hs2, p2 _ H2 Hf2 ρ2 hr2 (t1.trans t2) rfl⟩
          · cases eg
        · exact p2.elim
    | _ => exact p.elim
theorem q_revL {k : Nat} {p1 p2 p3 pos : Pos} (he : QR X B W e fe) : QE X B W (.Subscript e (.Slice none none (some (.UnaryOp .USub (.Constant (.int 1) k p1) p2)) p3) pos) (fUn gRevL fe) := by
  obtain ⟨ta, a1, a2⟩ := he
  refine ⟨_, pe_revL a1, fun n E S σ H Hf ρ Q R p => un_postF (r := fun x H Q => ∃ a xs, x = .ref a ∧ SqL X.K H a xs ∧ ∀ p, H p = none → Q (.ref p) (upd H p (.lst xs.reverse))) a2 (fun d x H Hf ρ S Q r hr w g kk => ?_) n E S σ H Hf ρ Q R p⟩
  unfold gRevL at g
  split at g
  · rename_i l
    cases g
    obtain ⟨a, vs, rfl, _, g2, g3⟩ := w
    exact ⟨a, vs, rfl, SqL.of g2, fun pp hp => new_ans (d := .lst l.reverse) hr hp (fun Hf' ex hqq => ⟨pp, _, rfl, hqq, (Dts.mono ex (Pre.refl _) _ _ g3).reverse⟩) kk⟩
  · cases g
end
end DL

end

section
set_option autoImplicit false
set_option autoImplicit false
namespace DL
open PySem PySem.Spec PyProof.Rows L2
/-! ### a dict that is locked from now on: loops over its items, its keys -/
def lockE (E : Env) (i : Nat) : Env := match E[i]? with
  | some (some (.own (.dct l))) => E.set i (some (.fz (.dct l)))
  | _ => E
def fLockD (i : Nat) (f : FS) : FS := fun n E S => f n (lockE E i) S
theorem Rel.lock {K : PySem.W.Frag} {B : Gr} {E : Env} {S : Store} {σ : L2.St} {H Hf : Hp} {ρ : List Addr} {l : List (Key × D)} (r : Rel K B E S σ H Hf ρ) {i : Nat} (e : E[i]? = some (some (.own (.dct l)))) :
    ∃ a u, H a = some u ∧ Mut (some u) ∧ ∀ od, ∃ Hf', Ext Hf Hf' ∧ Rel K B (E.set i (some (.fz (.dct l)))) S σ (upd H a (.frz od u)) Hf' ρ := by
  obtain ⟨a, h1, h2, h3, h4, vs, h5, h6⟩ := r.sl i _ e
  refine ⟨a, _, h5, True.intro, fun od => ?_⟩
  have ex : Ext Hf (upd Hf a (.frz od (.dK vs))) := fun b z e => by
    have : b ≠ a := fun q => by subst q; rw [h3] at e; cases e
    rw [upd_ne this]; exact e
  refine ⟨_, ex, (r.hr.own (o := .frz od (.dK vs)) h3 h4).freeze h3 upd_same h4, ⟨r.tr.hf.trans ex, r.tr.pre, fun b u hb hbn => ?_, fun b hb => ?_, r.tr.newh, fun b hb => ?_⟩, by simp [r.len], fun j s ej => ?_, fun j k b d1 d2 e1 e2 e3 e4 => ?_⟩
  · have : b ≠ a := fun z => by subst z; rw [h2] at hb; cases hb
    rw [upd_ne this]; exact r.tr.keep b u hb hbn
  · by_cases z : b = a
    · subst z; exact .inr h2
    · rw [upd_ne z] at hb; exact r.tr.fresh b hb
  · by_cases z : b = a
    · subst z; rw [upd_same]; simp
    · rw [upd_ne z]; exact r.tr.alive b hb
  · rcases get_set_own ej with ⟨rfl, ej, hl⟩ | ⟨hj, ej⟩
    · cases ej
      exact ⟨.ref a, h1, a, od, vs, rfl, upd_same, Dks.mono ex (Pre.refl _) _ _ h6⟩
    · have q := r.sl j s ej
      cases s with
      | fz d =>
        obtain ⟨u, q1, q2⟩ := q
        exact ⟨u, q1, q2.mono ex (Pre.refl _)⟩
      | own d2 =>
        obtain ⟨b, q1, q2, q3, q4, q5⟩ := q
        have ne : b ≠ a := fun z => hj (by subst z; exact r.dis i j _ _ d2 e ej h1 q1)
        refine ⟨b, q1, q2, by rw [upd_ne ne]; exact q3, q4, ?_⟩
        cases d2 with
        | lst l => obtain ⟨vs, k1, k2⟩ := q5; exact ⟨vs, by rw [upd_ne ne]; exact k1, Dts.mono ex (Pre.refl _) _ _ k2⟩
        | dct l => obtain ⟨vs, k1, k2⟩ := q5; exact ⟨vs, by rw [upd_ne ne]; exact k1, Dks.mono ex (Pre.refl _) _ _ k2⟩
        | _ => exact q5.elim
  · rcases get_set_own e1 with ⟨rfl, x1, hl⟩ | ⟨hj, e1⟩
    · cases x1
    · rcases get_set_own e2 with ⟨rfl, x2, hl2⟩ | ⟨hk, e2⟩
      · cases x2
      · exact r.dis j k b d1 d2 e1 e2 e3 e4
theorem pss_lockP {X : Cx} {sts : List Stmt} {t : TS} (h : PSs X sts t) : PSs X sts (fun D σ H => t D σ H ∨ ∃ d u, H d = some u ∧ Mut (some u) ∧ ∀ od, t D σ (upd H d (.frz od u))) := by
  refine ⟨fun pins s σ H D I hw => ?_⟩
  rcases hw with q | ⟨d, u, hd, mu, q⟩
  · exact h.run pins s σ H D I q
  · obtain ⟨od, I1⟩ := I.lock hd mu
    exact h.run pins s σ _ D I1 (q od)
section
variable {X : Cx} {B : Gr} {W : WX} {sts : List Stmt} {f : FS} {e tg : Expr} {fe : FE} {apos cpos tpos : Pos}
theorem ss_lockD (h : QSs X B W sts f) (i : Nat) : QSs X B W sts (fLockD i f) := by
  obtain ⟨t, a1, a2⟩ := h
  refine ⟨_, pss_lockP a1, fun n E S σ H Hf ρ Q r p => ?_⟩
  unfold fLockD lockE at p
  split at p
  · rename_i l el
    obtain ⟨a, u, h1, h2, h3⟩ := r.lock el
    refine .inr ⟨a, u, h1, h2, fun od => ?_⟩
    obtain ⟨Hf', ex, r'⟩ := h3 od
    exact a2 n _ S σ _ Hf' ρ Q r' (PostS.mono ex (Pre.refl _) p)
  · exact .inl (a2 n E S σ H Hf ρ Q r p)
/-- a key as data -/
def kD : Key → D
  | .inl i => .int i
  | .inr s => .str s
def itD (q : Key × D) : D := .tup [kD q.1, q.2]
theorem kD_v {K : PySem.W.Frag} {Hf : Hp} {ρ : List Addr} (k : Key) : Dt K Hf ρ (kD k) (kV k) := by
  cases k <;> rfl
theorem Dks.get {K : PySem.W.Frag} {Hf : Hp} {ρ : List Addr} : ∀ {l : List (Key × D)} {vs : List (Key × V)} {i : Nat} {q : Key × D}, Dks K Hf ρ l vs → l[i]? = some q → ∃ v, vs[i]? = some (q.1, v) ∧ Dt K Hf ρ q.2 v
  | [], vs, i, q, h, e => by simp at e
  | (k, d) :: l, vs, i, q, h, e => by
    simp only [Dks] at h
    obtain ⟨v, r, rfl, h1, h2⟩ := h
    cases i with
    | zero => simp only [List.getElem?_cons_zero, Option.some.injEq] at e; subst e; exact ⟨v, rfl, h1⟩
    | succ i => simp only [List.getElem?_cons_succ] at e ⊢; exact Dks.get h2 e
def fItems (fe : FE) : FA := fun n E S => (fe n E S).bind fun d S1 => match d with
  | .dct l => .ok (l.map itD) S1
  | _ => .stk
def fKeys (fe : FE) : FA := fun n E S => (fe n E S).bind fun d S1 => match d with
  | .dct l => .ok (l.map fun q => kD q.1) S1
  | _ => .stk
theorem i_items {elts : List Expr} {kk : Nat} (he : QE X B W e fe) (hbase : attributeBase e "items" X.env (eval e X.env) = eval e X.env) (hline : (apos.endLine == cpos.line) = true) :
    QI X B W (.Tuple elts kk tpos) (.Call (.Attribute e "items" apos) [] [] cpos) (fItems fe) := by
  obtain ⟨t, a1, a2⟩ := he
  refine ⟨_, pi_items a1 hbase hline, fun n E S σ H Hf ρ R r p => a2 n E S σ H Hf ρ _ r ?_⟩
  unfold fItems at p
  cases e1 : fe n E S with
  | stk => rw [e1] at p; exact p
  | exc y S1 => rw [e1] at p; exact p
  | ok d S1 =>
    rw [e1] at p
    cases d <;> try exact p.elim
    rename_i l
    intro v H' Hf' ρ' h1 h2 w
    obtain ⟨a, o, vs, rfl, w1, w2⟩ := (show ∃ a o kvs, v = .ref a ∧ Hf' a = some (.frz o (.dK kvs)) ∧ Dks X.K Hf' ρ' l kvs from w)
    refine ⟨a, o, vs, rfl, h1.sub _ _ w1, p _ H' Hf' ρ' h1 h2 ?_⟩
    intro H1 Hf1 ρ1 S2 hr ex pr i
    have g1 : H1 a = some (.frz o (.dK vs)) := hr.sub _ _ (ex _ _ w1)
    refine ⟨fun d e => ?_, fun hl => ⟨g1, by rw [← w2.len]; simpa using hl⟩⟩
    rw [List.getElem?_map, Option.map_eq_some_iff] at e
    obtain ⟨q, eq, rfl⟩ := e
    obtain ⟨vd, y1, y2⟩ := w2.get eq
    refine ⟨⟨g1, (List.getElem?_eq_some_iff.mp y1).1⟩, fun x H2 y => ?_⟩
    obtain ⟨T, k, v, z1, rfl, hT, rfl⟩ := y
    rw [y1] at z1; cases z1
    exact pair_new hr hT (kD_v _) (y2.mono ex pr)
theorem i_keys (he : QE X B W e fe) : QI X B W tg e (fKeys fe) := by
  obtain ⟨t, a1, a2⟩ := he
  refine ⟨_, pi_keys a1, fun n E S σ H Hf ρ R r p => a2 n E S σ H Hf ρ _ r ?_⟩
  unfold fKeys at p
  cases e1 : fe n E S with
  | stk => rw [e1] at p; exact p
  | exc y S1 => rw [e1] at p; exact p
  | ok d S1 =>
    rw [e1] at p
    cases d <;> try exact p.elim
    rename_i l
    intro v H' Hf' ρ' h1 h2 w
    obtain ⟨a, o, vs, rfl, w1, w2⟩ := (show ∃ a o kvs, v = .ref a ∧ Hf' a = some (.frz o (.dK kvs)) ∧ Dks X.K Hf' ρ' l kvs from w)
    refine ⟨a, o, rfl, .inl ⟨vs, h1.sub _ _ w1, p _ H' Hf' ρ' h1 h2 ?_⟩⟩
    intro H1 Hf1 ρ1 S2 hr ex pr i
    have g1 : H1 a = some (.frz o (.dK vs)) := hr.sub _ _ (ex _ _ w1)
    refine ⟨fun d e => ?_, fun hl => ⟨g1, by rw [← w2.len]; simpa using hl⟩⟩
    rw [List.getElem?_map, Option.map_eq_some_iff] at e
    obtain ⟨q, eq, rfl⟩ := e
    obtain ⟨vd, y1, y2⟩ := w2.get eq
    refine ⟨⟨g1, (List.getElem?_eq_some_iff.mp y1).1⟩, fun x H2 y => ?_⟩
    obtain ⟨rfl, k, v, z1, rfl⟩ := y
    rw [y1] at z1; cases z1
    exact ⟨Hf1, hr, Tr.refl _ _ _, kD_v _⟩
end
end DL

end

section
set_option autoImplicit false
set_option autoImplicit false
namespace DL
open PySem PySem.Spec PyProof.Rows L2
/-! ### {k: v} -/
def fDict1 (fk fv : FE) : FE := fun n E S => (fk n E S).bind fun dk S1 => (fv n E S1).bind fun d S2 => match keyD dk with
  | some k => .ok (.dct [(k, d)]) S2
  | none => .stk
section
variable {X : Cx} {B : Gr} {W : WX} {k v : Expr} {fk fv : FE} {pos : Pos}
theorem f_dict1 (hk : QE X B W k fk) (hv : QE X B W v fv) : QF X B W (.Dict [some k] [v] pos) (fDict1 fk fv) := by
  obtain ⟨tk, a1, a2⟩ := hk
  obtain ⟨tv, b1, b2⟩ := hv
  refine ⟨_, pe_disp (pps_cons a1 b1 pps_nil) rfl rfl (by simp) (by simp), fun n E S σ H Hf ρ Q r p => ?_⟩
  intro q hq
  have r1 := r.step (r.hr.own (o := .dK []) (r.hr.hnone hq) (r.hr.notin hq)) (Tr.own hq)
  refine a2 n E S σ _ Hf ρ _ r1 ?_
  unfold fDict1 at p
  cases e1 : fk n E S with
  | stk => rw [e1] at p; exact p
  | exc y S1 => rw [e1] at p; exact PostX.tr (Tr.own hq) p
  | ok dk S1 =>
    rw [e1] at p
    have p1 : PostF X.K W σ H Hf ρ Q ((fv n E S1).bind fun d S2 => match keyD dk with | some k => .ok (.dct [(k, d)]) S2 | none => .stk) := p
    intro x H1 Hf1 ρ1 hr1 t1 w1
    refine b2 n E S1 σ H1 Hf1 ρ1 _ (r1.step hr1 t1) ?_
    cases e2 : fv n E S1 with
    | stk => rw [e2] at p1; exact p1
    | exc y S2 => rw [e2] at p1; exact PostX.tr ((Tr.own hq).trans t1) p1
    | ok d S2 =>
      rw [e2] at p1
      have p2 : PostF X.K W σ H Hf ρ Q (match keyD dk with | some k => .ok (.dct [(k, d)]) S2 | none => .stk) := p1
      intro y H2 Hf2 ρ2 hr2 t2 w2
      cases ek : keyD dk with
      | none => rw [ek] at p2; exact p2.elim
      | some kk =>
        rw [ek] at p2
        have nq : q ∉ ρ := r.hr.notin hq
        have t12 := t1.trans t2
        have hq2 : H2 q = some (.dK []) := t12.keep _ _ upd_same nq
        have fq : Hf2 q = none := by
          cases z : Hf2 q with
          | none => rfl
          | some o =>
            rcases t12.fresh q (by rw [z]; simp) with c | c
            · exact absurd (r.hr.hnone hq) c
            · rw [upd_same] at c; cases c
        have rq : q ∉ ρ2 := fun z => by
          rcases t12.newh q z with c | c
          · exact nq c
          · rw [upd_same] at c; cases c
        refine ⟨hq2, [(kk, y)], ?_, by simp, ?_⟩
        · rw [keyD_v ek (w1.dw hr1)]; rfl
        · have tA := (Tr.own (Hf := Hf) (ρ := ρ) (o := .dK []) hq).trans t12
          refine p2 q _ Hf2 ρ2 (hr2.own fq rq) ⟨tA.hf, tA.pre, fun a o ha hn => ?_, tA.fresh, tA.newh, fun a ha => ?_⟩ hq fq rq ⟨_, upd_same, ?_⟩
          · have : a ≠ q := fun z => by subst z; rw [hq] at ha; cases ha
            rw [upd_ne this]; exact tA.keep a o ha hn
          · by_cases z : a = q
            · subst z; rw [upd_same]; simp
            · rw [upd_ne z]; exact tA.alive a ha
          · exact ⟨y, [], rfl, w2, rfl⟩
/-- y = x, x one's own and not read again -/
def fMove (i j : Nat) : FS := fun _ E S => match E[i]? with
  | some (some (.own d)) => .nx ((E.set i none).set j (some (.own d))) S
  | _ => .stk
theorem s_move {i j : Nat} {x y : Str} {p1 pos' : Pos} (vx : Vr X i x) (l : Lr X j y) (hs : swapsWith (.Name x p1) (some (.Name y pos')) pos.line X.env = pure false) : QS X B W (.Assign [.Name y pos'] (.Name x p1) pos) (fMove i j) := by
  refine ⟨_, ps_set l.nd l.ix l.loc (pe_var vx.ix vx.vis vx.db vx.cd) hs l.fn, fun n E S σ H Hf ρ Q r p => ?_⟩
  unfold fMove at p
  split at p
  · rename_i d el
    obtain ⟨a, h1, h2, h3, h4, h5⟩ := r.sl i _ el
    refine ⟨.ref a, h1, ?_⟩
    refine p _ _ _ _ ((r.drop i).setOwn j h2 h3 h4 h5 fun k e ek hk => ?_) (Ext.refl _) (Pre.refl _)
    rcases get_set_own ek with ⟨rfl, ek, hl⟩ | ⟨hj, ek⟩
    · cases ek
    · exact hj (r.dis i k a _ _ el ek h1 hk)
  · exact p.elim
end
end DL

end

section
set_option autoImplicit false
set_option autoImplicit false
namespace DL
open PySem PySem.Spec PyProof.Rows L2
/-! ### dict(xs) of a list of pairs -/
def prD? : List D → Option (List (Key × D))
  | [] => some []
  | .tup [k, d] :: l => (keyD k).bind fun kk => (prD? l).map ((kk, d) :: ·)
  | _ :: _ => none
def mergeD (acc : List (Key × D)) (kvs : List (Key × D)) : List (Key × D) := kvs.foldl (fun acc kv => puD acc kv.1 kv.2) acc
def gDictP : List D → Option (List (Key × D))
  | [.lst l] => (prD? l).map (mergeD [])
  | _ => none
def fDictL (g : FA) : FE := fun n E S => (g n E S).bind fun ds S1 => match gDictP ds with
  | some l => .ok (.dct l) S1
  | none => .stk
section
variable {K : PySem.W.Frag} {H Hf : Hp} {ρ : List Addr} {S : Store}
theorem prD_spec (hr : HR K H Hf ρ S) : ∀ {l : List D} {vs : List V} {kvs : List (Key × D)}, prD? l = some kvs → Dts K Hf ρ l vs → ∃ (ps : List Addr) (us : List (Key × V)), vs = ps.map V.ref ∧ Paired (fun p kv => SqT K H p [kV kv.1, kv.2]) ps us ∧ Dks K Hf ρ kvs us
  | [], vs, kvs, h, w => by
    cases h
    simp only [Dts] at w
    subst w
    exact ⟨[], [], rfl, .nil, rfl⟩
  | d0 :: l, vs, kvs, h, w => by
    unfold prD? at h
    split at h
    · rename_i el
      cases el
    · rename_i k d l2 el
      cases el
      obtain ⟨kk, hk, h⟩ := Option.bind_eq_some_iff.mp h
      obtain ⟨m, hm, rfl⟩ := Option.map_eq_some_iff.mp h
      simp only [Dts] at w
      obtain ⟨v, r, rfl, w1, w2⟩ := w
      obtain ⟨a, us, rfl, s1, s2⟩ := (show ∃ a vs, v = .ref a ∧ SqT K Hf a vs ∧ Dts K Hf ρ [k, d] vs from w1)
      simp only [Dts] at s2
      obtain ⟨u1, r1, rfl, x1, u2, r2, rfl, x2, rfl⟩ := s2
      obtain ⟨ps, us, rfl, i1, i2⟩ := prD_spec hr hm w2
      have e1 := keyD_v hk (x1.dw hr)
      subst e1
      exact ⟨a :: ps, (kk, u2) :: us, rfl, .cons (hr.sub.sqT s1) i1, u2, us, rfl, x2, i2⟩
    · cases h
theorem mergeD_spec : ∀ {kvs acc : List (Key × D)} {us accV : List (Key × V)}, Dks K Hf ρ kvs us → Dks K Hf ρ acc accV → Dks K Hf ρ (mergeD acc kvs) (mergeK accV us)
  | [], acc, us, accV, h, g => by
    simp only [Dks] at h
    subst h; exact g
  | (k, d) :: kvs, acc, us, accV, h, g => by
    simp only [Dks] at h
    obtain ⟨v, r, rfl, h1, h2⟩ := h
    show Dks K Hf ρ (mergeD (puD acc k d) kvs) (mergeK (putK accV k v) r)
    exact mergeD_spec h2 (g.put (k := k) h1)
end
section
variable {X : Cx} {B : Gr} {W : WX} {x : Str} {e : Expr} {es : List Expr} {g : FA} {p1 pos : Pos}
theorem f_dictL (hcalm : X.calm = true) (hb : Blt X x) (hv : bootBuiltins x = some (.type "dict")) (hn : x ≠ "__name__") (hdb : (x == ("__debug__" : Str)) = false) (ha : QAr X B W (e :: es) g)
    (he : starEach (e :: es) X.env = (false, eval e X.env) :: starEach es X.env) (hpl : (backTo pos (starEach es X.env)).any (·.1) = false) : QF X B W (.Call (.Name x p1) (e :: es) [] pos) (fDictL g) := by
  obtain ⟨t, k1, k2⟩ := ha
  refine ⟨_, pe_callTy (call_dictP hcalm) hb.gl hb.free hv k1 hn hdb he hpl, fun n E S σ H Hf ρ Q r p => k2 n E S σ H Hf ρ _ r ?_⟩
  unfold fDictL at p
  cases e1 : g n E S with
  | stk => rw [e1] at p; exact p
  | exc y S1 => rw [e1] at p; exact p
  | ok ds S1 =>
    rw [e1] at p
    intro vs H1 Hf1 ρ1 hr1 t1 w1
    have p : PostF X.K W σ H Hf ρ Q (match gDictP ds with | some l => .ok (.dct l) S1 | none => .stk) := p
    cases eg : gDictP ds with
    | none => rw [eg] at p; exact p.elim
    | some m =>
      rw [eg] at p
      unfold gDictP at eg
      split at eg
      · rename_i l
        obtain ⟨kvs, hk, rfl⟩ := Option.map_eq_some_iff.mp eg
        obtain ⟨z, rfl, w2⟩ := dws1 w1
        obtain ⟨a, us, rfl, _, h2, h3⟩ := w2
        obtain ⟨ps, qs, rfl, h4, h5⟩ := prD_spec hr1 hk h3
        refine ⟨a, ps, qs, rfl, SqL.of h2, h4, fun q hq => ?_⟩
        refine new_own (d := .dct (mergeD [] kvs)) hr1 hq ⟨_, upd_same, mergeD_spec h5 rfl⟩ fun q' H' Hf' ρ' a1 a2 a3 a4 a5 a6 => ?_
        exact p q' H' Hf' ρ' a1 (t1.trans a2) (tr_none t1 q' a3) a4 a5 a6
      · cases eg
end
end DL

end

section
set_option autoImplicit false
set_option autoImplicit false
namespace DL
open PySem PySem.Spec PyProof.Rows L2
/-! ### comprehensions with two clauses -/
def lc2L (g : Tgt) (c : Env → Store → Res Bool) (it1 : Env → Store → Res (List D)) (g1 : Tgt) (c1 : Env → Store → Res Bool) (e : Env → Store → Res D) (vs1 : List Nat) : List D → Env → Store → Res (List D)
  | [], _, S => .ok [] S
  | d :: ds, E, S => match g d E with
    | none => .stk
    | some E1 => (c E1 S).bindN fun k S1 => match k with
      | true => (it1 E1 S1).bindN fun ds1 S2 => (lcL g1 c1 e ds1 (wipeE E1 vs1) S2).bindN fun us S3 => (lc2L g c it1 g1 c1 e vs1 ds E S3).bindN fun ws S4 => .ok (us ++ ws) S4
      | false => lc2L g c it1 g1 c1 e vs1 ds E S1
def fLc2 (it : FA) (g : Tgt) (c : FT) (it1 : FA) (g1 : Tgt) (c1 : FT) (e : FE) (vs vs1 : List Nat) : FE := fun n E S => (it n E S).bind fun ds S1 =>
  (lc2L g (c n) (it1 n) g1 (c1 n) (e n) vs1 ds (wipeE E vs) S1).bindN fun l S2 => if l.length ≤ 1000000 then .ok (.lst l) S2 else .stk
def canI (K : PySem.W.Frag) (B : Gr) (W : WX) (f : FA) : TI := fun σ H R => ∃ n E S Hf ρ, Rel K B E S σ H Hf ρ ∧ PostI K W σ H Hf ρ R (f n E S)
theorem QI.can {X : Cx} {B : Gr} {W : WX} {tg it : Expr} {f : FA} (h : QI X B W tg it f) : PI X tg it (canI X.K B W f) := by
  obtain ⟨t, a, b⟩ := h
  exact ⟨fun pins s σ H R I ⟨n, E, S, Hf, ρ, r, p⟩ => a.run pins s σ H R I (b n E S σ H Hf ρ R r p)⟩
/-- targets make nothing one's own -/
def GOwn (g : Tgt) : Prop := ∀ d E E', g d E = some E' → ∀ (i : Nat) s, E'[i]? = some (some (.own s)) → E[i]? = some (some (.own s))
def GOwns (g : Tgts) : Prop := ∀ l E E', g l E = some E' → ∀ (i : Nat) s, E'[i]? = some (some (.own s)) → E[i]? = some (some (.own s))
theorem gown_N (j : Nat) : GOwn (gN j) := fun d E E' h i s e => by
  cases h
  rcases get_set_own e with ⟨rfl, x, hl⟩ | ⟨hj, e⟩
  · cases x
  · exact e
theorem gown_nil : GOwns gNils := fun l E E' h i s e => by
  unfold gNils at h
  split at h
  · cases h; exact e
  · cases h
theorem gown_cons {g : Tgt} {gs : Tgts} (h1 : GOwn g) (h2 : GOwns gs) : GOwns (gConss g gs) := fun l E E' h i s e => by
  unfold gConss at h
  split at h
  · obtain ⟨E1, a, b⟩ := Option.bind_eq_some_iff.mp h
    exact h1 _ _ _ a i s (h2 _ _ _ b i s e)
  · cases h
theorem gown_T {gs : Tgts} (h : GOwns gs) : GOwn (gT gs) := fun d E E' hh i s e => by
  unfold gT at hh
  split at hh
  · exact h _ _ _ hh i s e
  · cases hh
def NotOwn (E : Env) (σ : L2.St) (D : Addr) : Prop := ∀ (i : Nat) d, E[i]? = some (some (.own d)) → σ[i]? ≠ some (some (.ref D))
theorem Rel.updD {K : PySem.W.Frag} {B : Gr} {E : Env} {S : Store} {σ : L2.St} {H Hf : Hp} {ρ : List Addr} (r : Rel K B E S σ H Hf ρ) {D : Addr} {o : HO} (h0 : B.H0 D = none) (hf : Hf D = none) (hn : D ∉ ρ) (ho : NotOwn E σ D) :
    Rel K B E S σ (upd H D o) Hf ρ := by
  refine ⟨r.hr.own hf hn, ⟨r.tr.hf, r.tr.pre, fun b u hb hbn => ?_, r.tr.fresh, r.tr.newh, fun b hb => ?_⟩, r.len, fun j s ej => ?_, r.dis⟩
  · have : b ≠ D := fun z => by subst z; rw [h0] at hb; cases hb
    rw [upd_ne this]; exact r.tr.keep b u hb hbn
  · by_cases z : b = D
    · subst z; rw [upd_same]; simp
    · rw [upd_ne z]; exact r.tr.alive b hb
  · have q := r.sl j s ej
    cases s with
    | fz d => exact q
    | own d2 =>
      obtain ⟨b, q1, q2, q3, q4, q5⟩ := q
      have ne : b ≠ D := fun z => ho j d2 ej (by rw [q1, z])
      refine ⟨b, q1, q2, q3, q4, ?_⟩
      cases d2 with
      | lst l => obtain ⟨vs, k1, k2⟩ := q5; exact ⟨vs, by rw [upd_ne ne]; exact k1, k2⟩
      | dct l => obtain ⟨vs, k1, k2⟩ := q5; exact ⟨vs, by rw [upd_ne ne]; exact k1, k2⟩
      | _ => exact q5.elim
theorem wipe_none (vs : List Nat) (τ : L2.St) (v : Nat) (hv : v ∈ vs) : (L2.wipe τ vs).set v none = L2.wipe τ vs := by
  induction vs generalizing τ with
  | nil => cases hv
  | cons w ws ih =>
    unfold L2.wipe
    rcases List.mem_cons.mp hv with rfl | hv
    · rw [List.set_set]
    · by_cases hvw : v = w
      · subst hvw; rw [List.set_set]
      · rw [List.set_comm _ _ (Ne.symm hvw), ih τ hv]
theorem wipe_wipe (us vs : List Nat) (τ : L2.St) (h : ∀ v ∈ us, v ∈ vs) : L2.wipe (L2.wipe τ vs) us = L2.wipe τ vs := by
  induction us with
  | nil => rfl
  | cons w ws ih =>
    show (L2.wipe (L2.wipe τ vs) ws).set w none = L2.wipe τ vs
    rw [ih fun v h' => h v (List.mem_cons_of_mem _ h'), wipe_none vs τ w (h w List.mem_cons_self)]
theorem wipe_get (τ : L2.St) (i : Nat) : ∀ vs : List Nat, i ∉ vs → (L2.wipe τ vs)[i]? = τ[i]?
  | [], _ => rfl
  | v :: vs, h => by
    show ((L2.wipe τ vs).set v none)[i]? = _
    rw [List.getElem?_set_ne (fun z => h (by rw [z]; exact List.mem_cons_self)), wipe_get τ i vs fun z => h (List.mem_cons_of_mem _ z)]
theorem wipeE_get (E : Env) (i : Nat) (s : Sl) : ∀ vs : List Nat, (wipeE E vs)[i]? = some (some s) → i ∉ vs ∧ E[i]? = some (some s)
  | [], h => ⟨by simp, h⟩
  | v :: vs, h => by
    have h : ((wipeE E vs).set v none)[i]? = some (some s) := h
    by_cases z : v = i
    · subst z
      rw [List.getElem?_set] at h
      split at h
      · split at h
        · cases h
        · cases h
      · rename_i hh; exact absurd rfl hh
    · rw [List.getElem?_set_ne z] at h
      obtain ⟨a, b⟩ := wipeE_get E i s vs h
      exact ⟨fun q => (List.mem_cons.mp q).elim (fun q => z q.symm) a, b⟩
theorem stayD {D : Addr} {xs : List V} {Ha Hfa : Hp} {ρa : List Addr} {Hb Hfb : Hp} {ρb : List Addr} (t : Tr Ha Hfa ρa Hb Hfb ρb) (a1 : Ha D = some (.lst xs)) (a2 : Hfa D = none) (a3 : D ∉ ρa) : Hb D = some (.lst xs) ∧ Hfb D = none ∧ D ∉ ρb := by
  refine ⟨t.keep _ _ a1 a3, ?_, fun z => ?_⟩
  · cases z : Hfb D with
    | none => rfl
    | some u =>
      rcases t.fresh D (by rw [z]; simp) with q | q
      · exact absurd a2 q
      · rw [a1] at q; cases q
  · rcases t.newh D z with q | q
    · exact a3 q
    · rw [a1] at q; cases q
theorem Tr.updD {H Hf H' Hf' : Hp} {ρ ρ' : List Addr} (t : Tr H Hf ρ H' Hf' ρ') {D : Addr} {o : HO} (h : H D = none) : Tr H Hf ρ (upd H' D o) Hf' ρ' :=
  ⟨t.hf, t.pre, fun a u ha hn => by
    have : a ≠ D := fun z => by subst z; rw [h] at ha; cases ha
    rw [upd_ne this]; exact t.keep a u ha hn, t.fresh, t.newh, fun a ha => by
    by_cases z : a = D
    · subst z; rw [upd_same]; simp
    · rw [upd_ne z]; exact t.alive a ha⟩
section
variable {K : PySem.W.Frag} {B : Gr} {g1 : Tgt} {ft1 : FT} {fe : FE} {is1 vs1 : List Nat}
/-- the inner loop: it makes the list at D longer -/
theorem in_read {n : Nat} {Ew : Env} {S0 Se : Store} {σ2 : L2.St} {H0 Hf0 H1 Hf1 : Hp} {ρ0 ρ1 : List Addr} {C : Addr} {acc us ds : List D} {accV : List V} {J : It} {Nx : Hp → Prop}
    (hw : ∀ i ∈ is1, i ∈ vs1) (r : Rel K B Ew S0 (L2.wipe σ2 vs1) H0 Hf0 ρ0) (tB : Tr H1 Hf1 ρ1 H0 Hf0 ρ0) (hD : H0 C = some (.lst accV)) (hf : Hf0 C = none) (hn : C ∉ ρ0) (hB : B.H0 C = none) (h1D : H1 C = none) (hno : NotOwn Ew (L2.wipe σ2 vs1) C)
    (wacc : Dts K Hf0 ρ0 acc accV) (wk : WalkD K J ds Hf0 ρ0) (el : lcL g1 (ft1 n) (fe n) ds Ew S0 = .ok us Se) (hb : acc.length + us.length ≤ 1000000)
    (NX : ∀ H' Hf' ρ' accV', HR K H' Hf' ρ' Se → Tr H1 Hf1 ρ1 H' Hf' ρ' → H' C = some (.lst accV') → Hf' C = none → C ∉ ρ' → Dts K Hf' ρ' (acc ++ us) accV' → Nx H') :
    ∃ W1 : Nat → Nat → Hp → Prop, (∃ m, W1 0 m H0) ∧ ∀ j k H, W1 j k H →
      (J.stop j H ∧ Nx H) ∨ (J.go j H ∧ ∃ Nx1 : Hp → Prop, (∀ H', Nx1 H' → ∃ k', k' < k ∧ W1 (j + 1) k' H') ∧ ∀ x H', J.yld j H x H' → canG K B is1 g1 x (L2.wipe σ2 vs1) H' fun σ3 H5 => L2.wipe σ3 vs1 = L2.wipe σ2 vs1 ∧ canT K B W0 ft1 σ3 H5 fun b H6 =>
        if b = true then canE K B W0 fe σ3 H6 fun y H7 => ∃ acc, H7 C = some (.lst acc) ∧ acc.length < sizeLine ∧ Nx1 (upd H7 C (.lst (acc ++ [y]))) else Nx1 H6) := by
  let Wi : Nat → Nat → Hp → Prop := fun j k H2 => ∃ S2 Hf2 ρ2 a2 aV2 l, Rel K B Ew S2 (L2.wipe σ2 vs1) H2 Hf2 ρ2 ∧ Tr H1 Hf1 ρ1 H2 Hf2 ρ2 ∧ Ext Hf0 Hf2 ∧ Pre ρ0 ρ2 ∧ H2 C = some (.lst aV2) ∧ Hf2 C = none ∧ C ∉ ρ2 ∧ Dts K Hf2 ρ2 a2 aV2 ∧
    k = ds.length - j ∧ lcL g1 (ft1 n) (fe n) (ds.drop j) Ew S2 = .ok l Se ∧ acc ++ us = a2 ++ l
  refine ⟨Wi, ⟨ds.length, S0, Hf0, ρ0, acc, accV, us, r, tB, Ext.refl _, Pre.refl _, hD, hf, hn, wacc, by simp, by simpa using el, rfl⟩, ?_⟩
  rintro j k H2 ⟨S2, Hf2, ρ2, a2, aV2, l, r2, t2, ex2, pr2, hD2, hf2, hn2, w2, rfl, el2, eL⟩
  obtain ⟨k1, k2⟩ := wk H2 Hf2 ρ2 S2 r2.hr ex2 pr2 j
  by_cases hi : j < ds.length
  · obtain ⟨go, yl⟩ := k1 ds[j] (List.getElem?_eq_getElem hi)
    have ed : ds.drop j = ds[j] :: ds.drop (j + 1) := List.drop_eq_getElem_cons hi
    rw [ed] at el2
    refine .inr ⟨go, Wi (j + 1) (ds.length - (j + 1)), fun H' w => ⟨ds.length - (j + 1), by omega, w⟩, fun x H3 y => ?_⟩
    obtain ⟨Hf3, hr3, t3, w3⟩ := yl x H3 y
    obtain ⟨b1, b2, b3⟩ := stayD t3 hD2 hf2 hn2
    have r3 := r2.step hr3 t3
    unfold lcL at el2
    cases eg : g1 ds[j] Ew with
    | none => rw [eg] at el2; cases el2
    | some E3 =>
      rw [eg] at el2
      obtain ⟨k, S4, ec, el2⟩ := Res.bindN_ok el2
      refine ⟨ds[j], Ew, E3, S2, Hf3, ρ2, r3, w3, eg, fun σ4 r4 hwp => ⟨(hwp _ hw).trans (wipe_wipe vs1 vs1 σ2 fun _ h => h), n, E3, S2, Hf3, ρ2, r4, ?_⟩⟩
      rw [ec]
      intro H4 Hf4 ρ4 hr4 t4
      obtain ⟨c1, c2, c3⟩ := stayD t4 b1 b2 b3
      cases k with
      | false =>
        rw [if_neg Bool.false_ne_true]
        exact ⟨S4, Hf4, ρ4, a2, aV2, l, r3.step hr4 t4, (t2.trans t3).trans t4, (ex2.trans t3.hf).trans t4.hf, (pr2.trans t3.pre).trans t4.pre, c1, c2, c3, w2.mono (t3.hf.trans t4.hf) (t3.pre.trans t4.pre), rfl, el2, eL⟩
      | true =>
        rw [if_pos rfl]
        obtain ⟨v, S5, ev, el2⟩ := Res.bindN_ok el2
        obtain ⟨ws, S6, ews, el2⟩ := Res.bindN_ok el2
        cases el2
        refine ⟨n, E3, S4, Hf4, ρ4, r4.step hr4 t4, ?_⟩
        rw [ev]
        intro y H5 Hf5 ρ5 hr5 t5 w5
        obtain ⟨d1, d2, d3⟩ := stayD t5 c1 c2 c3
        have hlen : a2.length < 1000001 := by
          have := congrArg List.length eL
          simp only [List.length_append, List.length_cons] at this
          omega
        refine ⟨aV2, d1, ?_, ?_⟩
        · rw [← w2.length]; exact Nat.lt_of_lt_of_le hlen (by decide)
        · have tA := ((t2.trans t3).trans t4).trans t5
          refine ⟨S5, Hf5, ρ5, a2 ++ [v], aV2 ++ [y], ws, ((r3.step hr4 t4).step hr5 t5).updD hB d2 d3 hno, tA.updD h1D, ((ex2.trans t3.hf).trans t4.hf).trans t5.hf, ((pr2.trans t3.pre).trans t4.pre).trans t5.pre, upd_same, d2, d3, ?_, rfl, ews, ?_⟩
          · exact (w2.mono ((t3.hf.trans t4.hf).trans t5.hf) ((t3.pre.trans t4.pre).trans t5.pre)).append (Dts.one w5)
          · rw [eL, List.append_assoc]; rfl
  · refine .inl ⟨k2 (by omega), ?_⟩
    rw [List.drop_eq_nil_of_le (by omega)] at el2
    cases el2
    rw [List.append_nil] at eL
    exact NX H2 Hf2 ρ2 aV2 r2.hr t2 hD2 hf2 hn2 (by rw [eL]; exact w2)
end
section
variable {X : Cx} {B : Gr} {W : WX} {fi fi1 : FA} {g g1 : Tgt} {ft ft1 : FT} {fe : FE} {is is1 vs1 : List Nat} {own : List (Str × Nat)}
theorem lc2_read {wi : TI} (i2 : ∀ n E S σ H Hf ρ R, Rel X.K B E S σ H Hf ρ → PostI X.K W σ H Hf ρ R (fi n E S) → wi σ H R) (hw : ∀ i ∈ is, i ∈ own.map (·.2)) (hw1 : ∀ i ∈ is1, i ∈ vs1) (hgo : GOwn g)
    (n : Nat) (E : Env) (S : Store) (σ : L2.St) (H Hf : Hp) (ρ : List Addr) (Q : VK) (r : Rel X.K B E S σ H Hf ρ) (p : PostF X.K W σ H Hf ρ Q (fLc2 fi g ft fi1 g1 ft1 fe (own.map (·.2)) vs1 n E S)) :
    tLc2 wi (canG X.K B is g) (canT X.K B W0 ft) (canI X.K B W0 fi1) (canG X.K B is1 g1) (canT X.K B W0 ft1) (canE X.K B W0 fe) (own.map (·.2)) vs1 σ H Q := by
  refine i2 n E S σ H Hf ρ _ r ?_
  unfold fLc2 at p
  cases e1 : fi n E S with
  | stk => rw [e1] at p; exact p
  | exc y S1 => rw [e1] at p; exact p
  | ok ds S1 =>
    rw [e1] at p
    intro J H1 Hf1 ρ1 hr1 t1 wk C hC
    have p : PostF X.K W σ H Hf ρ Q ((lc2L g (ft n) (fi1 n) g1 (ft1 n) (fe n) vs1 ds (wipeE E (own.map (·.2))) S1).bindN fun l S2 => if l.length ≤ 1000000 then .ok (.lst l) S2 else .stk) := p
    cases el : lc2L g (ft n) (fi1 n) g1 (ft1 n) (fe n) vs1 ds (wipeE E (own.map (·.2))) S1 with
    | stk => rw [el] at p; exact p.elim
    | exc y S2 => rw [el] at p; exact p.elim
    | ok L Se =>
      rw [el] at p
      have p : PostF X.K W σ H Hf ρ Q (if L.length ≤ 1000000 then .ok (.lst L) Se else .stk) := p
      by_cases hl : L.length ≤ 1000000
      · rw [if_pos hl] at p
        have nH : H C = none := by
          cases z : H C with
          | none => rfl
          | some o => exact absurd hC (t1.alive C (by rw [z]; simp))
        have nB : B.H0 C = none := by
          cases z : B.H0 C with
          | none => rfl
          | some o => exact absurd nH (r.tr.alive C (by rw [z]; simp))
        have no0 : NotOwn (wipeE E (own.map (·.2))) (L2.wipe σ (own.map (·.2))) C := fun i d e z => by
          obtain ⟨a, h1, _, _, _, h5⟩ := (r.wipe (own.map (·.2))).sl i _ e
          rw [h1] at z; cases z
          obtain ⟨o, ho⟩ := h5.there
          rw [nH] at ho; cases ho
        have own_out : ∀ (i : Nat) (d : D), (wipeE E (own.map (·.2)))[i]? = some (some (.own d)) → i ∉ own.map (·.2) := fun i d e => (wipeE_get E i _ _ e).1
        generalize hEw : wipeE E (own.map (·.2)) = Ew at el no0 own_out
        have rw0 : Rel X.K B Ew S (L2.wipe σ (own.map (·.2))) H Hf ρ := hEw ▸ r.wipe (own.map (·.2))
        let Wi : Nat → Nat → Hp → Prop := fun i m H2 => ∃ S2 Hf2 ρ2 acc accV l, HR X.K H2 Hf2 ρ2 S2 ∧ Tr H1 Hf1 ρ1 H2 Hf2 ρ2 ∧ H2 C = some (.lst accV) ∧ Hf2 C = none ∧ C ∉ ρ2 ∧ Dts X.K Hf2 ρ2 acc accV ∧
          m = ds.length - i ∧ lc2L g (ft n) (fi1 n) g1 (ft1 n) (fe n) vs1 (ds.drop i) Ew S2 = .ok l Se ∧ L = acc ++ l
        refine ⟨Wi, ⟨ds.length, S1, Hf1, ρ1, [], [], L, hr1.own (hr1.hnone hC) (hr1.notin hC), Tr.own hC, upd_same, hr1.hnone hC, hr1.notin hC, rfl, by simp, by simpa using el, rfl⟩, ?_⟩
        rintro i m H2 ⟨S2, Hf2, ρ2, acc, accV, l, hr2, t2, hC2, hfC, hCn, wacc, rfl, ell, eL⟩
        obtain ⟨k1, k2⟩ := wk H2 Hf2 ρ2 S2 hr2 t2.hf t2.pre i
        by_cases hi : i < ds.length
        · obtain ⟨go, yl⟩ := k1 ds[i] (List.getElem?_eq_getElem hi)
          have ed : ds.drop i = ds[i] :: ds.drop (i + 1) := List.drop_eq_getElem_cons hi
          rw [ed] at ell
          refine .inr ⟨go, Wi (i + 1) (ds.length - (i + 1)), fun H' w => ⟨ds.length - (i + 1), by omega, w⟩, fun x H3 y => ?_⟩
          obtain ⟨Hf3, hr3, t3, w3⟩ := yl x H3 y
          obtain ⟨b1, b2, b3⟩ := stayD t3 hC2 hfC hCn
          have r3 := rw0.step hr3 ((t1.trans t2).trans t3)
          unfold lc2L at ell
          cases eg : g ds[i] Ew with
          | none => rw [eg] at ell; cases ell
          | some E3 =>
            rw [eg] at ell
            obtain ⟨k, S4, ec, ell⟩ := Res.bindN_ok ell
            refine ⟨ds[i], Ew, E3, S2, Hf3, ρ2, r3, w3, eg, fun σ4 r4 hwp => ⟨(hwp _ hw).trans (wipe_wipe _ _ σ fun _ h => h), n, E3, S2, Hf3, ρ2, r4, ?_⟩⟩
            rw [ec]
            intro H4 Hf4 ρ4 hr4 t4
            obtain ⟨c1, c2, c3⟩ := stayD t4 b1 b2 b3
            cases k with
            | false =>
              rw [if_neg Bool.false_ne_true]
              exact ⟨S4, Hf4, ρ4, acc, accV, l, hr4, (t2.trans t3).trans t4, c1, c2, c3, wacc.mono (t3.hf.trans t4.hf) (t3.pre.trans t4.pre), rfl, ell, eL⟩
            | true =>
              rw [if_pos rfl]
              obtain ⟨ds1, S5, ei, ell⟩ := Res.bindN_ok ell
              obtain ⟨us, S6, eu, ell⟩ := Res.bindN_ok ell
              obtain ⟨ws, S7, ew, ell⟩ := Res.bindN_ok ell
              cases ell
              refine ⟨n, E3, S4, Hf4, ρ4, r4.step hr4 t4, ?_⟩
              rw [ei]
              intro J1 H5 Hf5 ρ5 hr5 t5 wk1
              obtain ⟨d1, d2, d3⟩ := stayD t5 c1 c2 c3
              have tA := ((t2.trans t3).trans t4).trans t5
              have no1 : NotOwn (wipeE E3 vs1) (L2.wipe σ4 vs1) C := fun j d e z => by
                obtain ⟨a1, a2⟩ := wipeE_get E3 j _ vs1 e
                have a3 := hgo _ _ _ eg j d a2
                have a4 := own_out j d a3
                rw [wipe_get σ4 j vs1 a1] at z
                have a5 := congrArg (fun τ : L2.St => τ[j]?) (hwp _ hw)
                simp only [wipe_get _ j _ a4] at a5
                refine no0 j d a3 ?_
                rw [wipe_get _ j _ a4]
                rw [a5] at z
                exact z
              have hlen : acc.length + us.length ≤ 1000000 := by
                have := congrArg List.length eL
                simp only [List.length_append] at this
                omega
              refine in_read hw1 (((r4.step hr4 t4).step hr5 t5).wipe vs1) tA d1 d2 d3 nB hC no1 (wacc.mono ((t3.hf.trans t4.hf).trans t5.hf) ((t3.pre.trans t4.pre).trans t5.pre)) wk1 eu hlen fun H' Hf' ρ' accV' q1 q2 q3 q4 q5 q6 => ?_
              exact ⟨S6, Hf', ρ', acc ++ us, accV', ws, q1, q2, q3, q4, q5, q6, rfl, ew, by rw [eL, List.append_assoc]⟩
        · refine .inl ⟨k2 (by omega), ?_⟩
          rw [List.drop_eq_nil_of_le (by omega)] at ell
          cases ell
          rw [List.append_nil] at eL
          subst eL
          exact p C H2 Hf2 ρ2 hr2 (t1.trans t2) nH hfC hCn ⟨accV, hC2, wacc⟩
      · rw [if_neg hl] at p; exact p.elim
end
section
variable {X : Cx} {B : Gr} {W : WX} {tg it tg1 it1 elt : Expr} {scope : Scope} {own : List (Str × Nat)} {pos : Pos} {is is1 vs1 : List Nat} {fi fi1 : FA} {g g1 : Tgt} {fe : FE}
/-- [elt for tg in it for tg1 in it1] -/
theorem f_lc2 (cc : Cc X W) (hi : QI X B W tg it fi) (ok : blkC X.N X.env.scope scope own = true) (hv : ∀ i ∈ vs1, i ∈ own.map (·.2))
    (hg : ∀ (s : Shared) (H : Hp) (C : Addr) (cl : List (Str × Addr)) (fp : List Addr), QG (blkX X s H scope cl C fp) B tg is g) (hgo : GOwn g)
    (hi1 : ∀ (s : Shared) (H : Hp) (C : Addr) (cl : List (Str × Addr)) (fp : List Addr), QI (blkX X s H scope cl C fp) B W0 tg1 it1 fi1)
    (hg1 : ∀ (s : Shared) (H : Hp) (C : Addr) (cl : List (Str × Addr)) (fp : List Addr), QG (blkX X s H scope cl C fp) B tg1 is1 g1)
    (he : ∀ (s : Shared) (H : Hp) (C : Addr) (cl : List (Str × Addr)) (fp : List Addr), QE (blkX X s H scope cl C fp) B W0 elt fe) (hw : ∀ i ∈ is, i ∈ own.map (·.2)) (hw1 : ∀ i ∈ is1, i ∈ vs1)
    (hs : ∀ x, foldedSetIterable it X.env x = pure x) (hs1 : ∀ env x, foldedSetIterable it1 env x = pure x) :
    QF X B W (.ListComp elt [⟨tg, it, [], 0⟩, ⟨tg1, it1, [], 0⟩] scope pos) (fLc2 fi g fYes fi1 g1 fYes fe (own.map (·.2)) vs1) := by
  obtain ⟨wi, i1, i2⟩ := hi
  exact ⟨_, pe_lc2 cc.calm cc.nd i1 (blkOk_by ok) hv (fun s H C cl fp => (hg s H C cl fp).can) (fun s H C cl fp => t_yes) (fun s H C cl fp => (hi1 s H C cl fp).can) (fun s H C cl fp => (hg1 s H C cl fp).can) (fun s H C cl fp => t_yes) (fun s H C cl fp => (he s H C cl fp).can) hs hs1, lc2_read i2 hw hw1 hgo⟩
end
end DL

end

section
set_option autoImplicit false
set_option autoImplicit false
namespace HT
open PySem PySem.Spec PyProof.Rows
theorem pick_revT (xs : Array Value) : ((List.range xs.size).filterMap fun (m : Nat) => xs[((xs.size : Int) - 1 + (m : Int) * (-1)).toNat]?).toArray = xs.toList.reverse.toArray := by
  congr 1
  apply List.ext_getElem?
  intro i
  have e : (fun (m : Nat) => xs[((xs.size : Int) - 1 + (m : Int) * (-1)).toNat]?) = fun m => xs[xs.size - 1 - m]? := by
    funext m
    have : ((xs.size : Int) - 1 + (m : Int) * (-1)).toNat = xs.size - 1 - m := by omega
    rw [this]
  rw [e]
  have e2 : ∀ k, k ≤ xs.size → (List.range k).filterMap (fun m => xs[xs.size - 1 - m]?) = (xs.toList.reverse).take k := fun k => by
    induction k with
    | zero => intro _; rfl
    | succ k ih =>
      intro hk
      rw [List.range_succ, List.filterMap_append, ih (by omega), List.take_succ]
      congr 1
      have hlt : xs.size - 1 - k < xs.size := by omega
      have h1 : xs[xs.size - 1 - k]? = some xs[xs.size - 1 - k] := Array.getElem?_eq_getElem hlt
      have h2 : xs.toList.reverse[k]? = some xs[xs.size - 1 - k] := by
        rw [List.getElem?_reverse (by rw [Array.length_toList]; omega), Array.length_toList]
        rw [Array.getElem?_toList, h1]
      rw [h2]
      simp [h1]
  rw [e2 xs.size (Nat.le_refl _), List.take_of_length_le (by simp)]
section
variable {prog : Program} {w : World} {A : Around} {E : Value → Shared → Prop} {s : Shared}
theorem sliceApplied_rev {sl : Addr} {vl vu vs : Value} {n : Nat} {Q : Int × Int × Nat → Shared → Prop} (hs : s.heap.IsSliceOf sl vl vu vs) (pl : IsPart vl none) (pu : IsPart vu none) (ps : IsPart vs (some (-1)))
    (h : Q ((n : Int) - 1, -1, n) s) : wpAny (model prog w) A (Builtin.Slice.sliceApplied (.ref sl) (pure (n : Int))) Q E s := by
  obtain ⟨os, hos, hcs, hds⟩ := id hs
  unfold Builtin.Slice.sliceApplied Builtin.Slice.sliceFields
  refine wpAny_bind (wpAny_bind (wpAny_field hos hds (x := vl) rfl (wpAny_bind (wpAny_field hos hds (x := vu) rfl (wpAny_bind (wpAny_field hos hds (x := vs) rfl (wpAny_pure ?_)))))))
  refine wpAny_bind (slicePart_ ps ?_)
  show wpAny _ _ (if ((-1 : Int) == 0) = true then _ else _) _ _ s
  rw [if_neg (by decide)]
  refine wpAny_bind (slicePart_ pl (wpAny_bind (slicePart_ pu (wpAny_bind (wpAny_pure ?_)))))
  show wpAny _ _ (match Builtin.Slice.sliceAdjust none none (-1) (n : Int) with | (lo, hi) => pure (lo, (-1 : Int), Builtin.Slice.slicePlaces lo hi (-1))) _ _ s
  have ea : Builtin.Slice.sliceAdjust none none (-1) (n : Int) = ((n : Int) - 1, -1) := by
    unfold Builtin.Slice.sliceAdjust
    simp
  rw [ea]
  show wpAny _ _ (pure ((n : Int) - 1, (-1 : Int), Builtin.Slice.slicePlaces ((n : Int) - 1) (-1) (-1))) _ _ s
  have ep : Builtin.Slice.slicePlaces ((n : Int) - 1) (-1) (-1) = n := by
    unfold Builtin.Slice.slicePlaces
    simp
    try omega
  rw [ep]
  exact wpAny_pure h
theorem getItem_tuple_rev {t sl : Addr} {items : Array Value} {vl vu vs : Value} {Q : Value → Shared → Prop} (ht : IsTup s.heap t items) (hs : s.heap.IsSliceOf sl vl vu vs) (pl : IsPart vl none) (pu : IsPart vu none) (ps : IsPart vs (some (-1)))
    (h : Q (.ref s.heap.objs.size) { s with heap := s.heap.push { cls := .type "tuple", data := .seq items.toList.reverse.toArray } })
    (hsz : items.size ≤ sizeLine) : wpAny (model prog w) A (getItem (.ref t) (.ref sl)) Q E s := by
  have htake : sizeOk (.seq items.toList.reverse.toArray) := by
    show items.toList.reverse.toArray.size ≤ sizeLine
    rw [List.size_toArray, List.length_reverse, Array.length_toList]
    exact hsz
  obtain ⟨os, hos, hcs, hds⟩ := id hs
  have hTs : s.TypeIs (.ref sl) "slice" := ⟨os, hos, hcs⟩
  unfold getItem
  try with_reducible refine wpAny_holding ?_
  first | refine wpAny_bind (wpAny_pure ?_) | skip
  refine wpAny_bind (wpAny_sequenceKey ht.typeIs (by decide) ?_)
  refine wpAny_bind (wpAny_callSpecial?_slot (name := Str.ofString "__getitem__") ht.typeIs PyProof.Rows.slot_tuple_getitem
    (wpAny_call_entry PyProof.Rows.slot_tuple_getitem ht.typeIs entry_tuple_getitem ?_ (args_tuple_getitem _ _)))
  show wpAny _ _ (Builtin.Tuple.tupleItemsOf (.ref t) >>= _) _ _ s
  refine wpAny_bind (tupleItemsOf_ ht ?_)
  refine wpAny_bind (wpAny_typeOf hTs ?_)
  rw [if_pos (by decide)]
  refine wpAny_bind (sliceApplied_rev hs pl pu ps ?_)
  have hno : ¬ ((((items.size : Int) - 1) == 0 && (-1 : Int) == 1 && items.size == items.size) = true) := by
    intro q
    rw [Bool.and_eq_true, Bool.and_eq_true] at q
    have q2 : ((-1 : Int) == 1) = true := q.1.2
    exact absurd q2 (by decide)
  show wpAny _ _ (if (((items.size : Int) - 1) == 0 && (-1 : Int) == 1 && items.size == items.size) = true then _ else _) _ _ s
  rw [if_neg hno, pick_revT]
  first
    | exact wpAny_bind (m := Builtin.Tuple.tupleExact _) (wpAny_newObj_type (wpAny_pure ⟨_, rfl, wpAny_pure h⟩) htake)
    | exact wpAny_bind (m := Builtin.Tuple.tupleExact _) (wpAny_newObj_type (wpAny_bind (wpAny_pure (wpAny_pure ⟨_, rfl, wpAny_pure h⟩))) htake)
    | exact wpAny_bind (wpAny_bind (m := Builtin.Tuple.tupleExact _) (wpAny_newObj_type (wpAny_pure (wpAny_pure ⟨_, rfl, wpAny_pure h⟩)) htake))
    | exact wpAny_bind (wpAny_bind (m := Builtin.Tuple.tupleExact _) (wpAny_newObj_type (wpAny_pure ⟨_, rfl, wpAny_pure h⟩) htake))
end
end HT
namespace L2
open PySem PySem.Spec PyProof.Rows
def tRevT (K : PySem.W.Frag) (te : TE) : TE := fun σ H Q => te σ H fun x H1 => ∃ a xs, x = .ref a ∧ SqT K H1 a xs ∧ ∀ p, H1 p = none → Q (.ref p) (upd H1 p (.tup xs.reverse))
theorem pe_revT {X : Cx} {e : Expr} {te : TE} {k : Nat} {p1 p2 p3 pos : Pos} (he : PE X e te) : PE X (.Subscript e (.Slice none none (some (.UnaryOp .USub (.Constant (.int 1) k p1) p2)) p3) pos) (tRevT X.K te) := by
  refine ⟨fun pins s σ H Q I h => ?_⟩
  refine Subscript_ (thn (he.run pins s σ H _ I h) fun v s1 ⟨x, H1, I1, r1, q1⟩ => ?_)
  obtain ⟨a, xs, ex, hx, q⟩ := q1
  subst ex
  cases r1
  have hst : PO X (some (.UnaryOp .USub (.Constant (.int 1) k p1) p2)) (tPart (tUn (rU fun i => .int (-i)) (tC (.int 1)))) := po_some (pe_un un_neg pe_int)
  refine wpAny_Slice (thn (po_none.run pins s1 σ H1 (fun o H2 => o = none ∧ H2 = H1) I1 ⟨rfl, rfl⟩) fun vl s2 ⟨l, H2, I2, pl, el, e2⟩ => ?_)
  subst el e2
  refine thn (po_none.run pins s2 σ H2 (fun o H3 => o = none ∧ H3 = H2) I2 ⟨rfl, rfl⟩) fun vu s3 ⟨u, H3, I3, pu, eu, e3⟩ => ?_
  subst eu e3
  refine thn (hst.run pins s3 σ H3 (fun o H4 => o = some (-1) ∧ H4 = H3) I3 ⟨1, rfl, -1, rfl, rfl, rfl⟩) fun vs s4 ⟨o, H4, I4, ps, eo, e4⟩ => ?_
  subst eo e4
  have I5 : Inv X pins σ H4 { s4 with heap := s4.heap.push { cls := .type "slice", data := .fields #[vl, vu, vs] } } := I4.kept (t' := s4.toks) fun b ob q => Heap.get?_push_of_some _ q
  obtain ⟨its, r, ht, hz⟩ := I5.tuple hx
  have hlen := r.length
  show wpAny (model X.prog X.w) X.A (subscriptTail e (.Slice none none (some (.UnaryOp .USub (.Constant (.int 1) k p1) p2)) p3) (.ref a) (.ref s4.heap.objs.size)) (EP X pins σ Q) X.xe { s4 with heap := s4.heap.push { cls := .type "slice", data := .fields #[vl, vu, vs] } }
  refine tail_any (ops := [.ref a, .ref s4.heap.objs.size]) ht.typeIs (PyProof.Rows.slot_tuple_getitem.lookup) ?_ (by with_unfolding_all rfl)
  refine HT.getItem_tuple_rev ht (Heap.IsSliceOf.new _ vl vu vs) pl pu ps ?_ (by rw [List.size_toArray]; omega)
  refine ⟨.ref _, _, I5.laid (t' := s4.toks) (o := .tup xs.reverse) (fun b ob q => Heap.get?_push_of_some _ q) (Nat.le_refl _) ?_, rfl, q _ (I5.hok.fresh (Nat.le_refl _))⟩
  exact ⟨by rw [List.length_reverse]; exact hz, _, r.reverse, IsTup.new _ _⟩
end L2
namespace DL
open PySem PySem.Spec PyProof.Rows L2
def gRevT : D → Option D
  | .tup l => some (.tup l.reverse)
  | _ => none
def gRev : D → Option D
  | .lst l => some (.lst l.reverse)
  | .tup l => some (.tup l.reverse)
  | _ => none
section
variable {X : Cx} {B : Gr} {W : WX} {e : Expr} {fe : FE}
theorem q_rev {k : Nat} {p1 p2 p3 pos : Pos} (he : QR X B W e fe) : QE X B W (.Subscript e (.Slice none none (some (.UnaryOp .USub (.Constant (.int 1) k p1) p2)) p3) pos) (fUn gRev fe) := by
  obtain ⟨ta, a1, a2⟩ := he
  refine ⟨_, pe_or (pe_revL a1) (pe_revT a1), fun n E S σ H Hf ρ Q R p => ?_⟩
  by_cases hT : ∃ l S1, fe n E S = .ok (.tup l) S1
  · obtain ⟨l, S1, h⟩ := hT
    have eq : fUn gRev fe n E S = fUn gRevT fe n E S := by unfold fUn; rw [h]; rfl
    rw [eq] at p
    refine .inr (un_postF (r := fun x H Q => ∃ a xs, x = .ref a ∧ SqT X.K H a xs ∧ ∀ p, H p = none → Q (.ref p) (upd H p (.tup xs.reverse))) a2 (fun d x H Hf ρ S Q r hr w g kk => ?_) n E S σ H Hf ρ Q R p)
    unfold gRevT at g
    split at g
    · rename_i l2
      cases g
      obtain ⟨a, vs, rfl, g2, g3⟩ := (show Dt X.K Hf ρ (.tup l2) x from w)
      exact ⟨a, vs, rfl, hr.sub.sqT g2, fun pp hp => new_ans (d := .tup l2.reverse) hr hp (fun Hf' ex hqq => ⟨pp, _, rfl, SqT.of hqq, (Dts.mono ex (Pre.refl _) _ _ g3).reverse⟩) kk⟩
    · cases g
  · have eq : fUn gRev fe n E S = fUn gRevL fe n E S := by
      unfold fUn
      cases h : fe n E S with
      | stk => rfl
      | exc y S1 => rfl
      | ok d S1 =>
        cases d with
        | tup l => exact absurd ⟨l, S1, h⟩ hT
        | _ => rfl
    rw [eq] at p
    refine .inl (un_postF (r := fun x H Q => ∃ a xs, x = .ref a ∧ SqL X.K H a xs ∧ ∀ p, H p = none → Q (.ref p) (upd H p (.lst xs.reverse))) a2 (fun d x H Hf ρ S Q r hr w g kk => ?_) n E S σ H Hf ρ Q R p)
    unfold gRevL at g
    split at g
    · rename_i l2
      cases g
      obtain ⟨a, vs, rfl, _, g2, g3⟩ := w
      exact ⟨a, vs, rfl, SqL.of g2, fun pp hp => new_ans (d := .lst l2.reverse) hr hp (fun Hf' ex hqq => ⟨pp, _, rfl, hqq, (Dts.mono ex (Pre.refl _) _ _ g3).reverse⟩) kk⟩
    · cases g
end
end DL

end

section
set_option autoImplicit false
namespace L2
open PySem PySem.Spec PyProof.Rows
theorem tuple_mul1 (l : Addr) (items : Array Value) (n : Nat) (dd : Option Addr) (sl : Array (Option Value)) (u : Tok) :
    Meets (Builtin.«tuple.__mul__» ⟨[.ref l, .int 1 u], []⟩) (fun _ R s => s.heap.get? l = some { cls := .type "tuple", dict := dd, data := .seq items n, slots := sl } ∧ R (.ok (.ret (Value.ref l))) s) :=
  .of_wp fun prog w A R s h => by
    obtain ⟨hp, g, d, tk, os⟩ := s
    obtain ⟨hl, h⟩ := h
    have f1 := AutoSeq1.idx_int
    have c0 : (decide ((1 : Int) < -(2 ^ 63)) || decide ((1 : Int) ≥ 2 ^ 63)) = false := by decide
    have c1 : (items.isEmpty || (1 : Int) == 1) = true := by simp
    wp_walk using wpAny_loadPart' hl
    repeat (first
      | (refine wpAny_ite_false (decide_eq_false (by rw [c0]; exact Bool.false_ne_true)) ?_; wp_walk using wpAny_loadPart' hl)
      | (refine wpAny_ite_true (decide_eq_true c1) ?_; wp_walk using wpAny_loadPart' hl))
    exact ⟨_, rfl, h⟩
theorem tuple_mul0 (l : Addr) (items : Array Value) (n : Nat) (dd : Option Addr) (sl : Array (Option Value)) (x : Int) (u : Tok) (c0 : (decide (x < -(2 ^ 63)) || decide (x ≥ 2 ^ 63)) = false) (c1 : (items.isEmpty || x == 1) = false) (c2 : (decide (x ≤ 0) || items.isEmpty) = true) :
    Meets (Builtin.«tuple.__mul__» ⟨[.ref l, .int x u], []⟩) (fun _ R s => s.heap.get? l = some { cls := .type "tuple", dict := dd, data := .seq items n, slots := sl } ∧
      R (.ok (.ret (Value.ref s.heap.objs.size))) { s with heap := s.heap.push { cls := Value.type "tuple", data := Data.seq #[] }, toks := s.toks }) :=
  .of_wp fun prog w A R s h => by
    obtain ⟨hp, g, d, tk, os⟩ := s
    obtain ⟨hl, h⟩ := h
    have f1 := AutoSeq1.idx_int
    wp_walk using wpAny_loadPart' hl
    repeat (first
      | (refine wpAny_ite_false (decide_eq_false (by rw [c0]; exact Bool.false_ne_true)) ?_; wp_walk using wpAny_loadPart' hl)
      | (refine wpAny_ite_false (decide_eq_false (by rw [c1]; exact Bool.false_ne_true)) ?_; wp_walk using wpAny_loadPart' hl)
      | (refine wpAny_ite_true (decide_eq_true c2) ?_; wp_walk using wpAny_loadPart' hl)
      | (refine wpAny_ite_false (decide_eq_false (by decide)) ?_; wp_walk using wpAny_loadPart' hl))
    exact ⟨_, rfl, h⟩
def rRepTA (K : PySem.W.Frag) : R2 := fun x y H Q => ∃ l k xs, x = .ref l ∧ y = .int k ∧ SqT K H l xs ∧ xs ≠ [] ∧ -1000 ≤ k ∧ k ≤ 1000 ∧ xs.length ≤ 1000 ∧ (k = 1 → Q (.ref l) H) ∧ (k ≠ 1 → ∀ p, H p = none → Q (.ref p) (upd H p (.tup (List.replicate k.toNat xs).flatten)))
section
variable {X : Cx}
theorem op_repTA : OpR X (binaryOp .Mult) (rRepTA X.K) := by
  intro pins s σ H x y v u Q I rx ry h
  obtain ⟨l, k, xs, rfl, rfl, hT, hne, h0, h1, hz, q1, q2⟩ := h
  by_cases c : 2 ≤ k
  · exact op_repT pins s σ H (.ref l) (.int k) v u Q I rx ry ⟨l, k, xs, rfl, rfl, hT, hne, c, h1, hz, q2 (by omega)⟩
  · cases rx
    obtain ⟨t, rfl⟩ := ry
    obtain ⟨its, r, ⟨⟨cls, dd, data, sl⟩, ho, hc, n, hd⟩, hs⟩ := I.tuple hT
    simp only at hc hd
    subst hc hd
    have hle : its.length = xs.length := r.length.symm
    have hn : its ≠ [] := fun e => hne (by
      rw [e] at hle
      exact List.eq_nil_of_length_eq_zero hle.symm)
    have hi : its.toArray.isEmpty = false := by
      cases its with
      | nil => exact absurd rfl hn
      | cons a b => rfl
    by_cases c1 : k = 1
    · subst c1
      exact wpAny_binaryOp_repeat_ref (T := "tuple") (U := "int") (by decide) ⟨_, ho, rfl⟩ (fun s' => typeIs_int s' 1 t) noFill_tuple_mul F.fills_int_mul F.slot_int_rmul repeat_tuple F.slot_int_index.lookup
        (call_meets F.slot_int_rmul (typeIs_int s 1 t) F.entry_int_rmul (F.args_int_rmul_2 _ _) (int_rmul_tuple 1 t l its.toArray n dd sl)
          ⟨ho, rfl, ⟨_, ho, rfl⟩, call_meets F.slot_tuple_mul ⟨_, ho, rfl⟩ F.entry_tuple_mul (F.args_tuple_mul_2 _ _) (tuple_mul1 l its.toArray n dd sl t) ⟨ho, .ref l, H, I, rfl, q1 rfl⟩⟩)
    · have k0 : k ≤ 0 := by omega
      have e0 : (decide (k < -(2 ^ 63)) || decide (k ≥ 2 ^ 63)) = false := by
        rw [decide_eq_false (by omega), decide_eq_false (by omega)] <;> rfl
      have e1 : (its.toArray.isEmpty || k == 1) = false := by
        rw [hi, Bool.false_or]
        exact beq_eq_false_iff_ne.mpr c1
      have e2 : (decide (k ≤ 0) || its.toArray.isEmpty) = true := by
        rw [decide_eq_true k0]; rfl
      have ez : (List.replicate k.toNat xs).flatten = [] := by
        have : k.toNat = 0 := by omega
        rw [this]; rfl
      have q3 := q2 c1
      rw [ez] at q3
      refine wpAny_binaryOp_repeat_ref (T := "tuple") (U := "int") (by decide) ⟨_, ho, rfl⟩ (fun s' => typeIs_int s' k t) noFill_tuple_mul F.fills_int_mul F.slot_int_rmul repeat_tuple F.slot_int_index.lookup
        (call_meets F.slot_int_rmul (typeIs_int s k t) F.entry_int_rmul (F.args_int_rmul_2 _ _) (int_rmul_tuple k t l its.toArray n dd sl)
          ⟨ho, rfl, ⟨_, ho, rfl⟩, call_meets F.slot_tuple_mul ⟨_, ho, rfl⟩ F.entry_tuple_mul (F.args_tuple_mul_2 _ _) (tuple_mul0 l its.toArray n dd sl k t e0 e1 e2) ⟨ho, ?_⟩⟩)
      refine ⟨.ref s.heap.objs.size, _, I.laid (t' := s.toks) (o := .tup []) (fun b ob q => Heap.get?_push_of_some _ q) (Nat.le_refl _) ?_, rfl, q3 _ (I.hok.fresh (Nat.le_refl _))⟩
      exact ⟨by decide, _, .nil, IsTup.new _ _⟩
end
end L2
namespace DL
open PySem PySem.Spec PyProof.Rows L2
/-- (..) * k -/
def gRepT : D → D → Option D
  | .tup l, .int k => if decide (l ≠ []) && decide (-1000 ≤ k) && decide (k ≤ 1000) && decide (l.length ≤ 1000) then some (.tup (List.replicate k.toNat l).flatten) else none
  | _, _ => none
theorem opq_repT {X : Cx} : OpQ X (binaryOp .Mult) gRepT := by
  refine ⟨_, op_repTA, fun a b x y H Hf ρ S Q d hr wa wb e q => ?_⟩
  unfold gRepT at e
  split at e
  · rename_i l k
    split at e
    · rename_i hc
      simp only [Bool.and_eq_true, decide_eq_true_eq] at hc
      cases e
      obtain ⟨a, vs, rfl, h1, h2⟩ := (show Dt X.K Hf ρ (.tup l) x from wa)
      have wb : y = .int k := wb
      have hv : vs ≠ [] := fun z => hc.1.1.1 (by
        have := h2.length
        rw [z] at this
        exact List.eq_nil_of_length_eq_zero this)
      refine ⟨a, k, vs, rfl, wb, hr.sub.sqT h1, hv, hc.1.1.2, hc.1.2, by rw [← h2.length]; exact hc.2, fun e1 => ?_, fun _ pp hp => new_ans (d := .tup (List.replicate k.toNat l).flatten) hr hp (fun Hf' ex hqq => ⟨pp, _, rfl, SqT.of hqq, (Dts.mono ex (Pre.refl _) _ _ h2).rep _⟩) q⟩
      subst e1
      have : (List.replicate (1 : Int).toNat l).flatten = l := by
        show (List.replicate 1 l).flatten = l
        simp
      exact q _ H Hf ρ hr (Tr.refl _ _ _) (by rw [this]; exact ⟨a, vs, rfl, h1, h2⟩)
    · cases e
  · cases e
end DL

end

section
set_option autoImplicit false
set_option autoImplicit false
namespace DL
open PySem PySem.Spec PyProof.Rows L2
/-! ### three names, one of them a cell; a pair of names and an own thing -/
/-- ((x, y), z) = (a pair, an own thing) -/
def fPmn (i j k : Nat) (f : FM) : FS := fun n E S => match f n E S with
  | .ok [.fz (.tup [a, b]), c] S1 => .nx (((E.set i (some (.fz a))).set j (some (.fz b))).set k (some c)) S1
  | .ok _ _ => .stk
  | .exc x S1 => .ex x E S1
  | .stk => .stk
section
variable {X : Cx} {B : Gr} {W : WX} {pos : Pos} {fa : FM}
theorem s_pmt3 {i j k : Nat} {x y z : Str} {a b c : Expr} {px py pz pt pt2 : Pos} {kt k2 : Nat} (cc : Cc X W) (lx : Lr X i x) (ly : Lr X j y) (lz : Lr X k z) (ha : QM X B W [a, b, c] fa)
    (hs : swapsWithSole [.Tuple [.Name x px, .Name y py, .Name z pz] kt pt] (.Tuple [a, b, c] k2 pt2) pos.line X.env = pure false) (hw : swappedStores [.Tuple [.Name x px, .Name y py, .Name z pz] kt pt] (.Tuple [a, b, c] k2 pt2) X.env = pure none)
    (h1 : (assignEach [.Tuple [.Name x px, .Name y py, .Name z pz] kt pt] X.env).map (·.2) = [assign (.Tuple [.Name x px, .Name y py, .Name z pz] kt pt) X.env])
    (ht1 : (assignEach [.Name x px, .Name y py, .Name z pz] X.env).map (·.2) = assign (.Name x px) X.env :: (assignEach [.Name y py, .Name z pz] X.env).map (·.2)) (ht2 : (assignEach [.Name y py, .Name z pz] X.env).map (·.2) = assign (.Name y py) X.env :: (assignEach [.Name z pz] X.env).map (·.2)) (ht3 : (assignEach [.Name z pz] X.env).map (·.2) = assign (.Name z pz) X.env :: (assignEach [] X.env).map (·.2))
    (hn : (assignEach [.Name x px, .Name y py, .Name z pz] X.env).length = 3) (hst : (assignEach [.Name x px, .Name y py, .Name z pz] X.env).findIdx? (·.1) = none) :
    QS X B W (.Assign [.Tuple [.Name x px, .Name y py, .Name z pz] kt pt] (.Tuple [a, b, c] k2 pt2) pos) (fPm3 i j k fa) := by
  obtain ⟨t, b1, b2⟩ := ha
  refine ⟨_, ps_asg (pe_tup b1) (pg_tup cc.calm (pgs_cons (pg_name lx.nd lx.ix lx.loc lx.fn) (pgs_cons (pg_name ly.nd ly.ix ly.loc ly.fn) (pgs_cons (pg_name lz.nd lz.ix lz.loc lz.fn) pgs_nil ht3) ht2) ht1) hn hst) hs hw h1, fun n E S σ H Hf ρ Q r p => b2 n E S σ H Hf ρ _ r ?_⟩
  unfold fPm3 at p
  cases e1 : fa n E S with
  | stk => rw [e1] at p; exact p
  | exc y S1 => rw [e1] at p; exact fun c od H' Hf' ρ' a b d => p c od σ H' Hf' ρ' (r.step a b) b.hf b.pre d
  | ok ds S1 =>
    rw [e1] at p
    intro vs H1 Hf1 ρ1 g1 g2 w
    match ds, p, w with
    | [d1, d2, d3], p, w =>
      obtain ⟨v1, r1, rfl, -, -, a2⟩ := w.head r
      obtain ⟨v2, r2, rfl, -, -, a3⟩ := a2.head r
      obtain ⟨v3, r3, rfl, -, -, a4⟩ := a3.head r
      cases a4
      refine ⟨by show 3 ≤ sizeLine; decide, fun q hq => ⟨q, _, rfl, SqT.of upd_same, rfl, v1, _, rfl, v2, _, rfl, v3, _, rfl, rfl, ?_⟩⟩
      have t3 : Tr H1 Hf1 ρ1 (upd H1 q (.tup [v1, v2, v3])) Hf1 ρ1 := Tr.own hq
      have g3 : HR X.K (upd H1 q (.tup [v1, v2, v3])) Hf1 ρ1 S1 := g1.own (g1.hnone hq) (g1.notin hq)
      have w := w.step t3
      have h2 := g2.trans t3
      obtain ⟨v1', r1', e3, w1, u1, a2⟩ := w.head r
      cases e3
      obtain ⟨v2', r2', e4, w2, u2, a3⟩ := a2.head r
      cases e4
      obtain ⟨v3', r3', e5, w3, u3, a4⟩ := a3.head r
      cases e5
      refine p _ _ _ _ ((((r.step g3 h2).setSl i w1 fun p d e e2 j' e' he => ?_).setSl j w2 fun p d e e2 j' e' he => ?_).setSl k w3 fun p d e e2 j' e' he => ?_) h2.hf h2.pre
      · exact r.oldOwn (u1 p d e e2).1 j' e' he
      · rcases get_set_own he with ⟨rfl, x1, hl⟩ | ⟨hj, he⟩
        · cases x1
          rw [List.getElem?_set_self (by rw [← r.len]; exact hl)]
          intro z
          cases z
          exact (u1 _ e' rfl rfl).2 0 d (by subst e; rfl) (by subst e2; rfl)
        · rw [List.getElem?_set_ne hj]
          exact r.oldOwn (u2 p d e e2).1 j' e' he
      · rcases get_set_own he with ⟨rfl, x1, hl⟩ | ⟨hj, he⟩
        · cases x1
          rw [List.getElem?_set_self (by simpa [← r.len] using hl)]
          intro z
          cases z
          exact (u2 _ e' rfl rfl).2 0 d (by subst e; rfl) (by subst e2; rfl)
        · rw [List.getElem?_set_ne hj]
          rcases get_set_own he with ⟨rfl, x1, hl⟩ | ⟨hj, he⟩
          · cases x1
            rw [List.getElem?_set_self (by rw [← r.len]; exact hl)]
            intro z
            cases z
            exact (u1 _ e' rfl rfl).2 1 d (by subst e; rfl) (by subst e2; rfl)
          · rw [List.getElem?_set_ne hj]
            exact r.oldOwn (u3 p d e e2).1 j' e' he
theorem s_pmn {i j k : Nat} {x y z : Str} {a b : Expr} {px py pz pt pt2 pn : Pos} {kt k2 kn : Nat} (cc : Cc X W) (lx : Lr X i x) (ly : Lr X j y) (lz : Lr X k z) (ha : QM X B W [a, b] fa)
    (hs : swapsWithSole [.Tuple [.Tuple [.Name x px, .Name y py] kn pn, .Name z pz] kt pt] (.Tuple [a, b] k2 pt2) pos.line X.env = pure false) (hw : swappedStores [.Tuple [.Tuple [.Name x px, .Name y py] kn pn, .Name z pz] kt pt] (.Tuple [a, b] k2 pt2) X.env = pure none)
    (h1 : (assignEach [.Tuple [.Tuple [.Name x px, .Name y py] kn pn, .Name z pz] kt pt] X.env).map (·.2) = [assign (.Tuple [.Tuple [.Name x px, .Name y py] kn pn, .Name z pz] kt pt) X.env])
    (ht1 : (assignEach [.Tuple [.Name x px, .Name y py] kn pn, .Name z pz] X.env).map (·.2) = assign (.Tuple [.Name x px, .Name y py] kn pn) X.env :: (assignEach [.Name z pz] X.env).map (·.2)) (ht3 : (assignEach [.Name z pz] X.env).map (·.2) = assign (.Name z pz) X.env :: (assignEach [] X.env).map (·.2))
    (hn : (assignEach [.Tuple [.Name x px, .Name y py] kn pn, .Name z pz] X.env).length = 2) (hst : (assignEach [.Tuple [.Name x px, .Name y py] kn pn, .Name z pz] X.env).findIdx? (·.1) = none)
    (hu1 : (assignEach [.Name x px, .Name y py] X.env).map (·.2) = assign (.Name x px) X.env :: (assignEach [.Name y py] X.env).map (·.2)) (hu2 : (assignEach [.Name y py] X.env).map (·.2) = assign (.Name y py) X.env :: (assignEach [] X.env).map (·.2))
    (hn2 : (assignEach [.Name x px, .Name y py] X.env).length = 2) (hst2 : (assignEach [.Name x px, .Name y py] X.env).findIdx? (·.1) = none) :
    QS X B W (.Assign [.Tuple [.Tuple [.Name x px, .Name y py] kn pn, .Name z pz] kt pt] (.Tuple [a, b] k2 pt2) pos) (fPmn i j k fa) := by
  obtain ⟨t, b1, b2⟩ := ha
  refine ⟨_, ps_asg (pe_tup b1) (pg_tup cc.calm (pgs_cons (pg_tup cc.calm (pgs_cons (pg_name lx.nd lx.ix lx.loc lx.fn) (pgs_cons (pg_name ly.nd ly.ix ly.loc ly.fn) pgs_nil hu2) hu1) hn2 hst2) (pgs_cons (pg_name lz.nd lz.ix lz.loc lz.fn) pgs_nil ht3) ht1) hn hst) hs hw h1, fun n E S σ H Hf ρ Q r p => b2 n E S σ H Hf ρ _ r ?_⟩
  unfold fPmn at p
  cases e1 : fa n E S with
  | stk => rw [e1] at p; exact p
  | exc y S1 => rw [e1] at p; exact fun c od H' Hf' ρ' a b d => p c od σ H' Hf' ρ' (r.step a b) b.hf b.pre d
  | ok ds S1 =>
    rw [e1] at p
    intro vs H1 Hf1 ρ1 g1 g2 w
    match ds, p, w with
    | [.fz (.tup [d1, d2]), d3], p, w =>
      obtain ⟨v1, r1, rfl, ⟨u, eu, k1⟩, -, a2⟩ := w.head r
      cases eu
      obtain ⟨v3, r3, rfl, -, -, a3⟩ := a2.head r
      cases a3
      obtain ⟨aT, vT, rfl, s1, s2⟩ := (show Dt X.K Hf1 ρ1 (.tup [d1, d2]) v1 from k1)
      obtain ⟨x1, y1, rfl, w1, s2⟩ := s2
      obtain ⟨x2, y2, rfl, w2, s2⟩ := s2
      cases s2
      refine ⟨by show 2 ≤ sizeLine; decide, fun q hq => ⟨q, _, rfl, SqT.of upd_same, rfl, .ref aT, _, rfl, ⟨aT, [x1, x2], rfl, ?_, rfl, x1, _, rfl, x2, _, rfl, rfl, v3, _, rfl, rfl, ?_⟩⟩⟩
      · have t3 : Tr H1 Hf1 ρ1 (upd H1 q (.tup [.ref aT, v3])) Hf1 ρ1 := Tr.own hq
        have g3 : HR X.K (upd H1 q (.tup [.ref aT, v3])) Hf1 ρ1 S1 := g1.own (g1.hnone hq) (g1.notin hq)
        exact g3.sub.sqT s1
      · have t3 : Tr H1 Hf1 ρ1 (upd H1 q (.tup [.ref aT, v3])) Hf1 ρ1 := Tr.own hq
        have g3 : HR X.K (upd H1 q (.tup [.ref aT, v3])) Hf1 ρ1 S1 := g1.own (g1.hnone hq) (g1.notin hq)
        have w := w.step t3
        have h2 := g2.trans t3
        obtain ⟨v1', r1', e3, -, u1, a2⟩ := w.head r
        cases e3
        obtain ⟨v3', r3', e5, w3, u3, a4⟩ := a2.head r
        cases e5
        refine p _ _ _ _ (((((r.step g3 h2).set i w1).set j w2).setSl k w3 fun p d e e2 j' e' he => ?_)) h2.hf h2.pre
        rcases get_set_own he with ⟨rfl, x1, hl⟩ | ⟨hj, he⟩
        · cases x1
        · rw [List.getElem?_set_ne hj]
          rcases get_set_own he with ⟨rfl, x1, hl⟩ | ⟨hj, he⟩
          · cases x1
          · rw [List.getElem?_set_ne hj]
            exact r.oldOwn (u3 p d e e2).1 j' e' he
end
theorem sw3c {env : PySem.Env} {x y z : Str} {px py pz pt pt2 : Pos} {kt k2 : Nat} {a b c : Expr} (hk : env.scope.kind = .function) (hx : env.scope.names.lookup x = some .cell ∨ env.scope.names.lookup y = some .cell ∨ env.scope.names.lookup z = some .cell)
    (h1 : ([a, b, c].any fun | .Starred .. => true | _ => false) = false) :
    swappedStores [.Tuple [.Name x px, .Name y py, .Name z pz] kt pt] (.Tuple [a, b, c] k2 pt2) env = pure none := by
  have hb : env.blockKind = .function := by unfold PySem.Env.blockKind; rw [hk]; rfl
  unfold swappedStores
  dsimp only
  generalize hA : List.all [a, b, c] (foldedForSure 8) = A at *
  generalize hB : List.all [a, b, c] (constantsAlone 8) = C at *
  rw [if_neg (by rw [hb]; exact Bool.false_ne_true)]
  refine Eq.trans (if_neg (fun z => Bool.false_ne_true (h1.symm.trans z))) ?_
  generalize hF : List.filterMap _ _ = F
  have e : F.length ≠ 3 := by
    rw [← hF]
    rw [List.filterMap_cons, List.filterMap_cons, List.filterMap_cons, List.filterMap_nil]
    dsimp only
    have c1 : (some NameKind.cell == some NameKind.local) = false := by decide
    rcases hx with hx | hx | hx
    · have kx : env.kindOf x = some .cell := hx
      rw [kx, c1]
      simp only [Bool.false_and, Bool.false_eq_true, if_false]
      split <;> split <;> simp
    · have kx : env.kindOf y = some .cell := hx
      rw [kx, c1]
      simp only [Bool.false_and, Bool.false_eq_true, if_false]
      split <;> split <;> simp
    · have kx : env.kindOf z = some .cell := hx
      rw [kx, c1]
      simp only [Bool.false_and, Bool.false_eq_true, if_false]
      split <;> split <;> simp
  rw [if_pos (by simp [e])]
/-- a pair within the targets -/
theorem swn2 {env : PySem.Env} {ts : List Expr} {z : Str} {pz pt pt2 pn : Pos} {kt k2 kn : Nat} {a b : Expr} (hk : env.scope.kind = .function)
    (h1 : ([a, b].any fun | .Starred .. => true | _ => false) = false) :
    swappedStores [.Tuple [.Tuple ts kn pn, .Name z pz] kt pt] (.Tuple [a, b] k2 pt2) env = pure none := by
  have hb : env.blockKind = .function := by unfold PySem.Env.blockKind; rw [hk]; rfl
  unfold swappedStores
  dsimp only
  generalize hA : List.all [a, b] (foldedForSure 8) = A at *
  generalize hB : List.all [a, b] (constantsAlone 8) = C at *
  rw [if_neg (by rw [hb]; exact Bool.false_ne_true)]
  refine Eq.trans (if_neg (fun z => Bool.false_ne_true (h1.symm.trans z))) ?_
  generalize hF : List.filterMap _ _ = F
  have e : F.length ≠ 2 := by
    rw [← hF]
    rw [List.filterMap_cons, List.filterMap_cons, List.filterMap_nil]
    dsimp only
    split <;> simp
  rw [if_pos (by simp [e])]
end DL

end

section
set_option autoImplicit false
set_option autoImplicit true
/-! While an exception is handled: the ends of lists, of tuples, of zip; a tuple taken apart. -/
namespace HZ
open PySem PySem.Spec PyProof.Rows L2 HotX
section
variable {prog : Program} {w : World} {A : Around} {E : Value → Shared → Prop} {s : Shared} {x1 : Addr}
theorem HotAt.ext {h h' : Heap} (H : HotAt A x1 h) (k : ∀ o, h.get? x1 = some o → h'.get? x1 = some o) : HotAt A x1 h' :=
  let ⟨a, o, vs, b, c, d⟩ := H
  ⟨a, o, vs, k o b, c, d⟩
theorem HotAt.ne {a : Addr} {h : Heap} {o : Obj} {vs : Array Value} (H : HotAt A x1 h) (e : h.get? a = some o) (d : o.data = .fields vs) (z : vs[2]? ≠ some .none) : x1 ≠ a := fun q => by
  obtain ⟨_, o1, vs1, b, c, d1⟩ := H
  subst q; rw [e] at b; cases b; rw [d] at c; cases c
  exact z d1
theorem HotAt.lt {h : Heap} (H : HotAt A x1 h) : x1 < h.objs.size := let ⟨_, _, _, b, _⟩ := H; Heap.lt_size b
/-- the end of an iterator, told by an exception -/
theorem stop_hot {α : Type} {Q : α → Shared → Prop} (hot : HotAt A x1 s.heap)
    (hE : ∀ h' e, (∀ b o, s.heap.get? b = some o → h'.get? b = some o) → (∃ o, h'.get? e = some o ∧ o.cls = .type "StopIteration") → E (.ref e) { s with heap := h' }) :
    wpAny (model prog w) A (newExc (.type "StopIteration") [] >>= fun e => (raiseNew e : Sem α)) Q E s := by
  refine wpAny_bind ?_
  unfold newExc newTuple
  refine wpAny_bind (wpAny_newObj_type (wpAny_bind (m := firstArgMember _ _) (wpAny_of_eq (a := Value.none) rfl (wpAny_newObj_type ?_ (by size_fits)))) (by size_fits))
  have up := fun {b : Addr} {o : Obj} (o1 o2 : Obj) (e : s.heap.get? b = some o) => Heap.get?_push_of_some o2 (Heap.get?_push_of_some o1 e)
  refine raiseNew_hot (x1 := x1) (HotAt.ext hot fun o e => up _ _ e) (Nat.ne_of_lt ?_) (Heap.get?_push_size _ rfl) rfl (by simp; omega) (hE _ _ (fun b o e => ?_) ⟨_, Heap.get?_update_self _ (Heap.get?_push_size _ rfl) rfl, rfl⟩)
  · obtain ⟨_, o1, vs1, b, _⟩ := hot
    exact Heap.lt_size (Heap.get?_push_of_some _ b)
  · rw [Heap.get?_update_other _ _ (Nat.ne_of_gt (Heap.lt_size (Heap.get?_push_of_some _ e)))]
    exact up _ _ e
/-- a list's iterator that ends, asked by another -/
theorem listEnd_hot {it l : Addr} {i : Nat} {items} {Q : Value → Shared → Prop} (hot : HotAt A x1 s.heap) (hit : s.heap.IsListIter it l i) (hl : s.heap.IsList l items) (hx : items[i]? = none)
    (hE : ∀ h' e, Heap.ExtBut it s.heap h' → (∃ o, h'.get? e = some o ∧ o.cls = .type "StopIteration") → E (.ref e) { s with heap := h' }) : wpAny (model prog w) A (Builtin.SmallTypes.nextOf (.ref it)) Q E s := by
  obtain ⟨o, ho, hc, hd⟩ := id hit
  obtain ⟨ol, hol, _, nl, hdl⟩ := hl
  have nx : x1 ≠ it := HotAt.ne hot ho hd (by simp)
  refine wpAny_bind (wpAny_callSpecial?_slot (name := Str.ofString "__next__") hit.typeIs slot_listiter_next (wpAny_call_entry slot_listiter_next hit.typeIs entry_listiter_next ?_ (args_listiter_next _)))
  refine wpAny_bind (m := field (.ref it) 0) (wpAny_field ho hd (x := .ref l) rfl ?_)
  show wpAny _ _ (if (Value.ref l == Value.none) = true then _ else (field (.ref it) 1 >>= _)) _ _ s
  rw [if_neg (fun z : (Value.ref l == Value.none) = true => Bool.false_ne_true z)]
  refine wpAny_bind (wpAny_field ho hd (x := .int i 0) rfl ?_)
  refine wpAny_bind (m := seqItems? (.ref l)) (wpAny_seqItems hol hdl ?_)
  simp only [Int.toNat_natCast, hx]
  refine wpAny_bind (wpAny_rule (wpAny_bind (wpAny_setField ho hd (by simp) (stop_hot (x1 := x1) (HotAt.ext hot fun o e => ?_) fun h' e k ho' => hE h' e (fun b o hb e => k b o ?_) ho'))))
  · show (s.heap.update it _).get? x1 = some o
    rw [Heap.get?_update_other _ _ (Ne.symm nx)]; exact e
  · show (s.heap.update it _).get? b = some o
    rw [Heap.get?_update_other _ _ (Ne.symm hb)]; exact e
/-- zip ends with its first list -/
theorem zipEnd_hot {z TI TO i1 i2 l1 l2 : Addr} {k1 : Nat} {xs : Array Value} {a b : Value} {Q : Option Value → Shared → Prop} (hot : HotAt A x1 s.heap) (D : ZipApart z TI TO i1 i2 l1 l2)
    (hz : IsZip s.heap z TI TO .none) (hTI : IsPair s.heap TI (.ref i1) (.ref i2)) (hTO : IsPair s.heap TO a b) (h1 : s.heap.IsListIter i1 l1 k1) (hl1 : s.heap.IsList l1 xs) (hx : xs[k1]? = none)
    (hQ : ∀ h', (∀ c o, c ≠ z → c ≠ i1 → s.heap.get? c = some o → h'.get? c = some o) → Q none { s with heap := h' }) : wpAny (model prog w) A (pyNext (.ref z)) Q E s := by
  have hT : s.TypeIs (.ref z) "zip" := ⟨_, hz, rfl⟩
  have nz : x1 ≠ z := HotAt.ne hot hz rfl (by simp)
  suffices H : wpAny (model prog w) A.in1 (Builtin.«zip.__next__» ⟨[.ref z], []⟩) (fun fin s' => ∃ v, fin = .done (.ret v) ∧ Q (some v) s') (fun e s' => ∃ h', (∀ c o, c ≠ z → c ≠ i1 → s.heap.get? c = some o → h'.get? c = some o) ∧ s' = { s with heap := h' } ∧ ∃ a, e = .ref a ∧ ∃ o, h'.get? a = some o ∧ o.cls = .type "StopIteration") s by
    unfold pyNext
    refine wpAny_bind (wpAny_attempt (wpAny_callSpecial?_slot (name := Str.ofString "__next__") hT F.slot_zip_next (wpAny_call_entry F.slot_zip_next hT F.entry_zip_next (wpAny_mono H (fun fin s' h => ?_) fun e s' h => ?_) (F.args_zip_next_1 _))))
    · obtain ⟨v, e, q⟩ := h
      exact ⟨v, e, wpAny_pure q⟩
    · obtain ⟨h', k, rfl, a, rfl, o, ho, hc⟩ := h
      exact wpAny_bind (wpAny_isInstance (T := "StopIteration") (b := true) ⟨o, ho, hc⟩ isSubtype_stop (wpAny_pure (hQ _ k)))
  refine wpAny_bind (m := field (.ref z) 2) (wpAny_field hz rfl (x := .bool false) rfl ?_)
  refine wpAny_bind (m := field (.ref z) 3) (wpAny_field hz rfl (x := .ref TI) rfl (wpAny_bind (wpAny_seqItems hTI rfl (wpAny_bind (m := Builtin.SmallTypes.ownedTupleIsFree (.ref z)) ?_))))
  unfold Builtin.SmallTypes.ownedTupleIsFree
  refine wpAny_bind (wpAny_field hz rfl (x := .none) rfl (wpAny_pure ?_))
  simp only [if_true]
  refine wpAny_bind (wpAny_rule (wpAny_bind (wpAny_field hz rfl (x := .ref TO) rfl (wpAny_bind (wpAny_setField_rec hz (by simp) fun h₁ hz₁ hs₁ => ?_)))))
  replace hz₁ : IsZip h₁ z TI TO .ellipsis := hz₁
  refine wpAny_bind ?_
  simp only [List.zipIdx_cons, List.zipIdx_nil, List.forIn_cons, List.forIn_nil]
  refine wpAny_bind (wpAny_bind (wpAny_onRaise ?_))
  refine wpAny_bind (m := Builtin.SmallTypes.nextOf (.ref i1)) (listEnd_hot (x1 := x1) (HotAt.ext hot fun o e => hs₁.extBut _ _ nz e) (h1.extBut hs₁.extBut D.i1z) (hl1.extBut hs₁.extBut D.l1z) hx fun h₂ e hs₂ he => ?_)
  obtain ⟨oe, hoe, hce⟩ := he
  have hz₂ : IsZip h₂ z TI TO .ellipsis := hs₂ _ _ D.i1z.symm hz₁
  have hez : e ≠ z := fun x => by subst x; rw [hz₂] at hoe; cases hoe; simp at hce
  exact wpAny_setField_rec hz₂ (by simp) fun h₃ _ hs₃ => ⟨h₃, fun c o c1 c3 x => hs₃.extBut _ _ c1 (hs₂ _ _ c3 (hs₁.extBut _ _ c1 x)), rfl, e, rfl, oe, hs₃.extBut _ _ hez hoe, hce⟩
/-- a tuple's iterator that ends -/
theorem tupEnd_hot {it t : Addr} {i : Nat} {items} {Q : Option Value → Shared → Prop} (hot : HotAt A x1 s.heap) (hit : IsTupIter s.heap it t i) (ht : IsTup s.heap t items) (hx : items[i]? = none)
    (hQ : ∀ h', Heap.ExtBut it s.heap h' → Q none { s with heap := h' }) : wpAny (model prog w) A (pyNext (.ref it)) Q E s := by
  obtain ⟨o, ho, hc, hd⟩ := id hit
  obtain ⟨ol, hol, _, nl, hdl⟩ := ht
  have nx : x1 ≠ it := HotAt.ne hot ho hd (by simp)
  unfold pyNext
  refine wpAny_bind (wpAny_attempt (wpAny_callSpecial?_slot (name := Str.ofString "__next__") hit.typeIs slot_tupleiter_next (wpAny_call_entry slot_tupleiter_next hit.typeIs entry_tupleiter_next ?_ (args_tupleiter_next _))))
  refine wpAny_bind (m := field (.ref it) 0) (wpAny_field ho hd (x := .ref t) rfl ?_)
  show wpAny _ _ (if (Value.ref t == Value.none) = true then _ else (field (.ref it) 1 >>= _)) _ _ s
  rw [if_neg (fun z : (Value.ref t == Value.none) = true => Bool.false_ne_true z)]
  refine wpAny_bind (wpAny_field ho hd (x := .int i 0) rfl ?_)
  refine wpAny_bind (m := seqItems? (.ref t)) (wpAny_seqItems hol hdl ?_)
  simp only [Int.toNat_natCast, hx]
  refine wpAny_bind (wpAny_rule (wpAny_bind (wpAny_setField ho hd (by simp) (stop_hot (x1 := x1) (HotAt.ext hot fun o e => ?_) fun h' e k ho' => ?_))))
  · show (s.heap.update it _).get? x1 = some o
    rw [Heap.get?_update_other _ _ (Ne.symm nx)]; exact e
  · refine wpAny_bind (wpAny_isInstance (T := "StopIteration") (b := true) ho' isSubtype_stop (wpAny_pure (hQ _ fun b o hb e => k b o ?_)))
    show (s.heap.update it _).get? b = some o
    rw [Heap.get?_update_other _ _ (Ne.symm hb)]; exact e
/-- a tuple taken apart -/
theorem apart_hot {env : Env} {elts : List Expr} {kk} {pos : Pos} {t : Addr} {items : Array Value} {Q : Unit → Shared → Prop} (hot : HotAt A x1 s.heap) (ht : IsTup s.heap t items) (hn : (assignEach elts env).length = items.size) (hstar : (assignEach elts env).findIdx? (·.1) = none)
    (h : ∀ h', Heap.ExtBut s.heap.objs.size s.heap h' → wpAny (model prog w) A (assignInOrder ((assignEach elts env).map (·.2)) items.toList) Q E { s with heap := h' }) : wpAny (model prog w) A (assign (.Tuple elts kk pos) env (.ref t)) Q E s := by
  have hlt : t ≠ s.heap.objs.size := let ⟨o, ho, _⟩ := ht; Nat.ne_of_lt (Heap.lt_size ho)
  rw [assign_Tuple]
  refine wpAny_bind (wpAny_standAt ?_)
  unfold unpack
  rw [hn, hstar]
  refine wpAny_bind (wpAny_holding ?_)
  unfold unpackItems
  refine wpAny_bind ?_
  unfold notIterableAtAll
  refine wpAny_bind (wpAny_specialOf ht.typeIs slot_tuple_iter.lookup (wpAny_pure ?_))
  simp only [Bool.false_eq_true, if_false]
  refine wpAny_bind (wpAny_holding (iter_tuple ht (wpAny_bind (wpAny_holding (draw_tuple hlt items.size 0 _ _ ⟨_, Heap.get?_push_size _ rfl, rfl, rfl⟩ (ht.push _) (by omega) fun h₁ hit₁ hs₁ => ?_)))))
  rw [List.drop_zero, List.take_of_length_le (by simp), if_neg (by simp)]
  have nx : x1 ≠ s.heap.objs.size := Nat.ne_of_lt (HotAt.lt hot)
  refine wpAny_bind (wpAny_holding (tupEnd_hot (x1 := x1) (HotAt.ext hot fun o e => hs₁.extBut _ _ nx (Heap.get?_push_of_some _ e)) hit₁ ((ht.push _).extBut hs₁.extBut hlt) (by simp) fun h₂ he₂ => ?_))
  simp only [Option.isSome_none, Bool.false_eq_true, if_false]
  exact wpAny_pure (h h₂ fun b o hb e => he₂ b o hb (hs₁.extBut b o hb (Heap.get?_push_of_some _ e)))
end
end HZ

end

section
set_option autoImplicit false
set_option autoImplicit true
/-! [x for x, y in zip(xs, ys) if y], ys bools, while an exception is handled. The shape of the proof is turned from the worked example Ex_GoesComp. -/
namespace HZ
open PySem PySem.Spec PyProof.Rows L2 HotX
section
variable {prog : Program} {w : World} {A : Around} {E : Value → Shared → Prop} {s : Shared} {x1 : Addr}
/-- where zip stands behind i turns -/
def StZ (A : Around) (x1 z TI TO i1 i2 l1 l2 : Addr) (xs ys : Array Value) (i : Nat) (h : Heap) : Prop :=
  IsZip h z TI TO .none ∧ IsPair h TI (.ref i1) (.ref i2) ∧ (∃ x y, IsPair h TO x y) ∧ (h.IsListIter i1 l1 i ∧ h.IsList l1 xs) ∧ (h.IsListIter i2 l2 i ∧ h.IsList l2 ys) ∧ HotAt A x1 h
def YZ (xs ys : Array Value) (i : Nat) (v : Value) (h : Heap) : Prop := ∃ T x y, v = .ref T ∧ xs[i]? = some x ∧ ys[i]? = some y ∧ IsPair h T x y
theorem pair_tup {h : Heap} {T : Addr} {x y : Value} (p : IsPair h T x y) : IsTup h T #[x, y] := ⟨_, p, rfl, _, rfl⟩
theorem goesZ {elts : List Expr} {kk : Nat} {pos : Pos} {z TI TO i1 i2 l1 l2 : Addr} {xs ys : Array Value} (D : ZipApart z TI TO i1 i2 l1 l2) (hsz : xs.size = ys.size) :
    PySem.Goes prog w A (.Tuple elts kk pos) z [z, TI, TO, i1, i2, l1, l2, x1] [z, TO, i1, i2] xs.size (YZ xs ys) (StZ A x1 z TI TO i1 i2 l1 l2 xs ys) where
  sub := fun b hb => by
    simp only [List.mem_cons, List.not_mem_nil, or_false] at hb ⊢
    rcases hb with q | q | q | q <;> simp [q]
  frame := fun i h h' st k => by
    obtain ⟨hz, hTI, ⟨x, y, hTO⟩, ⟨h1, h2⟩, ⟨h3, h4⟩, hot⟩ := st
    exact ⟨k z (by simp) _ hz, k TI (by simp) _ hTI, ⟨x, y, k TO (by simp) _ hTO⟩, ⟨h1.at fun o e => k i1 (by simp) o e, h2.at fun o e => k l1 (by simp) o e⟩, ⟨h3.at fun o e => k i2 (by simp) o e, h4.at fun o e => k l2 (by simp) o e⟩, HotAt.ext hot fun o e => k x1 (by simp) o e⟩
  goes := fun i s Q E hi st hQ => by
    obtain ⟨hz, hTI, ⟨x0, y0, hTO⟩, ⟨h1, h2⟩, ⟨h3, h4⟩, hot⟩ := st
    have hx : xs[i]? = some xs[i] := by simp [hi]
    have hi2 : i < ys.size := by omega
    have hy : ys[i]? = some ys[i] := by simp [hi2]
    have hzl : z < s.heap.objs.size := Heap.lt_size hz
    have nz : x1 ≠ z := HotAt.ne hot hz rfl (by simp)
    have n1 : x1 ≠ i1 := let ⟨_, a, _, b⟩ := h1; HotAt.ne hot a b (by simp)
    have n2 : x1 ≠ i2 := let ⟨_, a, _, b⟩ := h3; HotAt.ne hot a b (by simp)
    have nO : x1 ≠ TO := fun q => by
      obtain ⟨_, o1, vs1, b, c, _⟩ := hot
      rw [q, hTO] at b; cases b; cases c
    refine wpAny_pyNext_zip_item D hz hTI hTO h1 h3 h2 h4 hx hy fun h' z' TO' h1' h3' hT hs hk => ⟨_, rfl, wpAny_letOwnedTupleGo_zip (s := { s with heap := h' }) z' fun h'' z'' sb => ?_⟩
    have up : ∀ c o, c ≠ z → c ≠ TO → c ≠ i1 → c ≠ i2 → s.heap.get? c = some o → h''.get? c = some o := fun c o c1 c2 c3 c4 e => (sb.2 c c1).trans (hk c o c1 c2 c3 c4 e)
    refine hQ _ h'' s.toks ⟨_, xs[i], ys[i], rfl, hx, hy, (sb.2 _ (Nat.ne_of_gt hzl)).trans hT⟩ ⟨z'', ?_, ⟨_, _, (sb.2 _ D.TOz).trans TO'⟩, ⟨h1'.at fun o e => (sb.2 _ D.i1z).trans e, ?_⟩, ⟨h3'.at fun o e => (sb.2 _ D.i2z).trans e, ?_⟩, HotAt.ext hot fun o e => up _ _ nz nO n1 n2 e⟩ (fun b o hb e => ?_) (Nat.le_refl _)
    · exact up _ _ D.TIz D.TITO D.TIi1 D.TIi2 hTI
    · exact h2.at fun o e => up _ _ D.l1z D.l1TO D.l1i1 D.l1i2 e
    · exact h4.at fun o e => up _ _ D.l2z D.l2TO D.l2i1 D.l2i2 e
    · simp only [List.mem_cons, List.not_mem_nil, or_false, not_or] at hb
      exact up b o hb.1 hb.2.1 hb.2.2.1 hb.2.2.2 e
  stops := fun s Q E st hQ => by
    obtain ⟨hz, hTI, ⟨x0, y0, hTO⟩, ⟨h1, h2⟩, ⟨h3, h4⟩, hot⟩ := st
    refine zipEnd_hot hot D hz hTI hTO h1 h2 (by simp) fun h' k => ⟨rfl, hQ h' s.toks (fun b o hb e => ?_) (Nat.le_refl _)⟩
    simp only [List.mem_cons, List.not_mem_nil, or_false, not_or] at hb
    exact k b o hb.1 hb.2.2.1 e
  self := fun i s Q E st h => wpAny_pyIter_zip st.1 h
/-- what is chosen -/
def sel (xs : List Value) (bs : List Bool) : List Value := ((xs.zip bs).filter (·.2)).map (·.1)
theorem sel_step {xs : List Value} {bs : List Bool} {i : Nat} {x : Value} {b : Bool} (hx : xs[i]? = some x) (hb : bs[i]? = some b) : (((xs.zip bs).take (i + 1)).filter (·.2)).map (·.1) = (((xs.zip bs).take i).filter (·.2)).map (·.1) ++ if b = true then [x] else [] := by
  have q : (xs.zip bs)[i]? = some (x, b) := by rw [List.getElem?_zip_eq_some]; exact ⟨hx, hb⟩
  rw [List.take_add_one, q]
  simp only [Option.toList_some, List.filter_append, List.map_append]
  congr 1
  cases b <;> rfl
theorem zipCore {env : Env} {scope : Scope} {cl : List (Str × Addr)} {l1 l2 : Addr} {xs : List Value} {bs : List Bool} {x y : Str} {px py pt pe pg : Pos} {kk : Nat} {Q : Value → Shared → Prop} (hot : HotAt A x1 s.heap) (hlen : xs.length = bs.length) (hkind : scope.kind = .function)
    (ha : scope.names.lookup x = some .local) (hb : scope.names.lookup y = some .local) (hxy : x ≠ y) (dx : (x == ("__debug__" : Str)) = false) (dy : (y == ("__debug__" : Str)) = false) (hl1 : s.heap.IsList l1 xs.toArray) (hl2 : s.heap.IsList l2 (bs.map Value.bool).toArray) (hsz : xs.length ≤ sizeLine)
    (h : ∀ D h' tk (vs : List Value), s.heap.objs.size ≤ D → h'.PlainList D vs.toArray → vs = sel xs bs → (∀ b o, s.heap.get? b = some o → h'.get? b = some o) → Q (.ref D) { s with heap := h', toks := tk }) :
    wpAny (model prog w) A (call (.type "zip") [.ref l1, .ref l2]) (fun xv s₁ => wpAny (model prog w) A (pyIter xv) (PySem.LcGoes prog w A (fun _ _ => False) env scope cl (.Tuple [.Name x px, .Name y py] kk pt) [.Name y pg] (.Name x pe) none Q) (fun _ _ => False) s₁) (fun _ _ => False) s := by
  have lt1 : l1 < s.heap.objs.size := let ⟨o, ho, _⟩ := hl1; Heap.lt_size ho
  have lt2 : l2 < s.heap.objs.size := let ⟨o, ho, _⟩ := hl2; Heap.lt_size ho
  have lt3 : x1 < s.heap.objs.size := HotAt.lt hot
  obtain ⟨N, hN⟩ : ∃ N : Nat, N = s.heap.objs.size := ⟨_, rfl⟩
  refine zip_begins2 (begins_list l1 xs.toArray) (begins_list l2 (bs.map Value.bool).toArray) hl1 hl2 fun h₁ hZ hTI hTO hi1 hi2 hz5 hk₁ => wpAny_pyIter_zip hZ ?_
  have ap : ZipApart (s.heap.objs.size + 4) (s.heap.objs.size + 2) (s.heap.objs.size + 3) s.heap.objs.size (s.heap.objs.size + 1) l1 l2 := by
    rw [← hN] at lt1 lt2 ⊢
    have lt1 : @LT.lt Nat _ l1 N := lt1
    have lt2 : @LT.lt Nat _ l2 N := lt2
    constructor <;> (show (_ : Nat) ≠ _; omega)
  refine ⟨_, _, _, _, _, _, rfl, goesZ (x1 := x1) ap (by simpa using hlen), by simpa using hsz, ⟨hZ, hTI, ⟨_, _, hTO⟩, ⟨⟨_, hi1, rfl, rfl⟩, hl1.at fun o e => hk₁ _ o e⟩, ⟨⟨_, hi2, rfl, rfl⟩, hl2.at fun o e => hk₁ _ o e⟩, HotAt.ext hot fun o e => hk₁ _ o e⟩, fun b hb => ?_, fun D C s₃ hB => ?_⟩
  · show b < h₁.objs.size
    rw [hz5]
    simp only [List.mem_cons, List.not_mem_nil, or_false] at hb
    rw [← hN] at hb lt1 lt2 lt3 ⊢
    have lt1 : @LT.lt Nat _ l1 N := lt1
    have lt2 : @LT.lt Nat _ l2 N := lt2
    have lt3 : @LT.lt Nat _ x1 N := lt3
    show @LT.lt Nat _ b (N + 5)
    rcases hb with q | q | q | q | q | q | q | q <;> (subst q; omega)
  · obtain ⟨⟨h₃, tk₃, rfl⟩, old, nD, nC, hDC, hnm⟩ := hB
    have nC' : (s.heap.objs.size + 5 : Nat) ≤ C := by rw [← hz5]; exact nC
    have nD' : (s.heap.objs.size + 5 : Nat) ≤ D := by rw [← hz5]; exact nD
    have kinds : ∀ y, scope.names.lookup y = some .local → (compEnvC scope cl C env).kindOf y = some .local := fun y hy => lookup_relabel_local hy
    have hp : ((compEnvC scope cl C env).scope.kind == .class || ((compEnvC scope cl C env).scope.kind == .module && (compEnvC scope cl C env).locals != (compEnvC scope cl C env).globals)) = false := by
      show (scope.kind == .class || (scope.kind == .module && _)) = false
      rw [hkind]; rfl
    have ltC : ∀ b : Addr, b < s.heap.objs.size + 5 → b ≠ C := fun b hb => Nat.ne_of_lt (Nat.lt_of_lt_of_le hb nC')
    refine ⟨fun i vs s₁ => ∃ h' tk m, s₁ = { s with heap := h', toks := tk } ∧ h'.Ns C m ∧ vs = (((xs.zip bs).take i).filter (·.2)).map (·.1) ∧ ∀ b o, s.heap.get? b = some o → h'.get? b = some o, ⟨h₃, tk₃, _, rfl, hnm, by simp, fun b o e => old b o (hk₁ b o e)⟩, ?_, ?_, ?_⟩
    · rintro i vs s₁ h' tk ⟨h₄, tk₄, m, rfl, n₄, e₄, k₄⟩ hk' _
      have off : ∀ b : Addr, (b < s.heap.objs.size ∨ b = C) → b ∉ D :: [s.heap.objs.size + 4, s.heap.objs.size + 3, s.heap.objs.size, s.heap.objs.size + 1] := fun b hb hm => by
        simp only [List.mem_cons, List.not_mem_nil, or_false] at hm
        rcases hb with hb | hb
        · have hb : @LT.lt Nat _ b s.heap.objs.size := hb
          have nD' : @LE.le Nat _ (s.heap.objs.size + 5) D := nD'
          rcases hm with q | q | q | q | q
          · subst q; exact absurd nD' (by omega)
          · rw [q] at hb; exact absurd (show (s.heap.objs.size + 4 : Nat) < s.heap.objs.size from hb) (by omega)
          · rw [q] at hb; exact absurd (show (s.heap.objs.size + 3 : Nat) < s.heap.objs.size from hb) (by omega)
          · rw [q] at hb; exact absurd hb (Nat.lt_irrefl _)
          · rw [q] at hb; exact absurd (show (s.heap.objs.size + 1 : Nat) < s.heap.objs.size from hb) (by omega)
        · subst hb
          rcases hm with q | q | q | q | q
          · exact hDC q.symm
          · exact ltC _ (show (s.heap.objs.size + 4 : Nat) < s.heap.objs.size + 5 by omega) q.symm
          · exact ltC _ (show (s.heap.objs.size + 3 : Nat) < s.heap.objs.size + 5 by omega) q.symm
          · exact ltC _ (show (s.heap.objs.size : Nat) < s.heap.objs.size + 5 by omega) q.symm
          · exact ltC _ (show (s.heap.objs.size + 1 : Nat) < s.heap.objs.size + 5 by omega) q.symm
      exact ⟨h', tk, m, rfl, n₄.at' fun o e => hk' _ o (off _ (.inr rfl)) e, e₄, fun b o e => hk' b o (off _ (.inl (Heap.lt_size e))) (k₄ b o e)⟩
    · rintro i v vs s₁ hi ⟨T, u, b, rfl, hx, hy, hT⟩ st ⟨h₄, tk₄, m, rfl, n₄, e₄, k₄⟩ hpl
      have hx : xs[i]? = some u := by simpa using hx
      obtain ⟨c, hc, rfl⟩ : ∃ c, bs[i]? = some c ∧ b = .bool c := by
        have : (bs.map Value.bool)[i]? = some b := by simpa using hy
        rw [List.getElem?_map, Option.map_eq_some_iff] at this
        obtain ⟨c, h1, h2⟩ := this
        exact ⟨c, h1, h2.symm⟩
      have stp := sel_step hx hc
      refine apart_hot (x1 := x1) st.2.2.2.2.2 (pair_tup hT) rfl rfl fun h₅ hs₅ => ?_
      have up₅ : ∀ b o, h₄.get? b = some o → h₅.get? b = some o := fun b o e => hs₅ b o (Nat.ne_of_lt (Heap.lt_size e)) e
      show wpAny _ _ (assignInOrder [assign (.Name x px) _, assign (.Name y py) _] [u, .bool c]) _ _ _
      refine assignInOrder_cons (wpAny_assign_Name (wpAny_storeName_local (kinds _ ha) (n₄.at' fun o e => up₅ _ o e) (fun h₆ n₆ s₆ => ?_) hp))
      refine assignInOrder_cons (wpAny_assign_Name (wpAny_storeName_local (kinds _ hb) n₆ (fun h₇ n₇ s₇ => assignInOrder_nil ?_) hp))
      have up₇ : ∀ b o, b ≠ C → h₄.get? b = some o → h₇.get? b = some o := fun b o hb e => s₇.extBut _ _ hb (s₆.extBut _ _ hb (up₅ b o e))
      have ends : ∀ (tk₅ : Tok) vs', vs' = vs ++ (if c = true then [u] else []) → (∃ h' tk m, ({ s with heap := h₇, toks := tk₅ } : Shared) = { s with heap := h', toks := tk } ∧ h'.Ns C m ∧ vs' = (((xs.zip bs).take (i + 1)).filter (·.2)).map (·.1) ∧ ∀ b o, s.heap.get? b = some o → h'.get? b = some o) ∧ StZ A x1 (s.heap.objs.size + 4) (s.heap.objs.size + 2) (s.heap.objs.size + 3) s.heap.objs.size (s.heap.objs.size + 1) l1 l2 xs.toArray (bs.map Value.bool).toArray (i + 1) h₇ ∧ h₇.PlainList D vs.toArray   := fun tk₅ vs' e => by
        refine ⟨⟨h₇, _, _, rfl, n₇, by rw [e, stp, e₄], fun b o e => up₇ b o (ltC b (Nat.lt_add_right 5 (Heap.lt_size e))) (k₄ b o e)⟩, ?_, hpl.at fun o e => up₇ _ o hDC e⟩
        obtain ⟨z1, z2, ⟨a1, a2, z3⟩, ⟨z4, z5⟩, ⟨z6, z7⟩, z8⟩ := st
        refine ⟨up₇ _ _ (ltC _ ?_) z1, up₇ _ _ (ltC _ ?_) z2, ⟨a1, a2, up₇ _ _ (ltC _ ?_) z3⟩, ⟨z4.at fun o e => up₇ _ o (ltC _ ?_) e, z5.at fun o e => up₇ _ o (ltC _ (Nat.lt_add_right 5 lt1)) e⟩, ⟨z6.at fun o e => up₇ _ o (ltC _ ?_) e, z7.at fun o e => up₇ _ o (ltC _ (Nat.lt_add_right 5 lt2)) e⟩, HotAt.ext z8 fun o e => up₇ _ o (ltC _ (Nat.lt_add_right 5 lt3)) e⟩
        · exact show (s.heap.objs.size + 4 : Nat) < s.heap.objs.size + 5 by omega
        · exact show (s.heap.objs.size + 2 : Nat) < s.heap.objs.size + 5 by omega
        · exact show (s.heap.objs.size + 3 : Nat) < s.heap.objs.size + 5 by omega
        · exact show (s.heap.objs.size : Nat) < s.heap.objs.size + 5 by omega
        · exact show (s.heap.objs.size + 1 : Nat) < s.heap.objs.size + 5 by omega
      refine wpAny_tests_one (wpAny_isTrue_value ?_)
      rw [eval_Name _ _ _ dy]
      refine wpAny_bind (wpAny_standAt (wpAny_loadName_local hkind (kinds _ hb) n₇ (v := .bool c) (by simp) (wpAny_truthy_bool ?_)))
      cases c with
      | false =>
        rw [if_neg (by simp)]
        exact ends _ vs (by simp)
      | true =>
        rw [if_pos rfl, eval_Name _ _ _ dx]
        exact wpAny_bind (wpAny_standAt (wpAny_loadName_local hkind (kinds _ ha) n₇ (v := u) (by simp [hxy]) (ends _ _ (by simp))))
    · rintro vs s₁ ⟨h₄, tk₄, m, rfl, n₄, e₄, k₄⟩ hpl
      have e₅ : vs = sel xs bs := by
        rw [e₄, List.take_of_length_le (by simp [hlen])]; rfl
      exact ⟨m, n₄, fun h' hs' => h D h' tk₄ vs (Nat.le_trans (Nat.le_add_right _ 5) nD') (hpl.extBut hs'.extBut hDC) e₅ fun b o e => hs'.extBut b o (ltC b (Nat.lt_add_right 5 (Heap.lt_size e))) (k₄ b o e)⟩
end
end HZ

end

section
set_option autoImplicit false
set_option autoImplicit true
/-! Within an except suite: what the words of an error are made of. -/
namespace HZ
open PySem PySem.Spec PyProof.Rows L2 L2H HotX DL
/-! ### facts of the classes of errors -/
/-- what isinstance asks of an error's class -/
def exB (K : PySem.W.Frag) (C : Addr) : Bool :=
  (PySem.W.clsIn K C).isSome && (decide (PySem.W.findIn K (.ref C) "__getattribute__" = some (some (.builtin "BaseException.__getattribute__"))) && (decide (PySem.W.findIn K (.ref C) "__getattr__" = some none) && (decide (PySem.W.subIn K (.ref C) (.type "BaseException") = some true) &&
    (decide (PySem.W.findIn K (.ref C) "__class__" = some (some (.builtin "object.__class__"))) && (decide (PySem.W.specialIn K (.builtin "object.__class__") "__get__" = some (some (.builtin "getset_descriptor.__get__"))) && (decide (PySem.W.takesIn K (.builtin "object.__class__") = some true) && decide (PySem.W.mroIn K C (.type "object") = some true)))))))
theorem kitx_of_exB {K : PySem.W.Frag} {C x : Addr} {ox : Obj} (h : exB K C = true) : PySem.W.KitX K (.ref x) (.ref C) (fun h => PySem.W.InstAt h x ox C none) := by
  unfold exB at h
  simp only [Bool.and_eq_true, decide_eq_true_eq] at h
  obtain ⟨h1, h2, h3, h4, h5, h6, h7, h8⟩ := h
  exact PySem.W.kitx_exc h1 h2 h3 h4 h5 h6 h7 h8
section
variable {X : Cx} {a : Addr} {oe : Obj} {C : Addr}
/-- the error in hand: pinned, of the class at C, without a dict -/
structure Hand (X : Cx) (a : Addr) (oe : Obj) (C : Addr) : Prop where
  pin : (a, oe) ∈ X.pn
  cls : oe.cls = .ref C
  dict : oe.dict = none
  flds : ∃ vs, oe.data = .fields vs ∧ vs[2]? = some .none
  han : X.A.handled = some (.ref a)
theorem Hand.hot {pins : List (Addr × Obj)} {σ : L2.St} {H : Hp} {s : Shared} (h : Hand X a oe C) (I : Inv X pins σ H s) : HotAt X.A a s.heap := by
  obtain ⟨vs, h1, h2⟩ := h.flds
  exact ⟨h.han, oe, vs, (I.pin _ (List.mem_append_left _ h.pin)).1, h1, h2⟩
theorem call_isiE {c : Value} {b : Bool} (h : Hand X a oe C) (ex : exB X.K C = true) (e : PySem.W.kitOne X.K (.ref C) c = some b) :
    CallR X (.builtin "isinstance") (fun xs H Q => ∃ vc, xs = [.ref a, vc] ∧ ClsV vc c ∧ Q (.bl b) H) := by
  intro pins s σ H xs us Q I r q
  obtain ⟨vc, rfl, k, q⟩ := q
  obtain ⟨u1, u2, rfl, r1, r2⟩ := vals2 r
  cases (show u1 = Value.ref a from r1)
  have e2 := k.eq r2
  subst e2
  have at_ := (I.pin _ (List.mem_append_left _ h.pin)).1
  obtain ⟨vs, hd, _⟩ := h.flds
  refine PySem.W.kia_one (kitx_of_exB (x := a) (ox := oe) ex) I.kIn ⟨at_, h.cls, by unfold PySem.W.notCls; rw [hd], by rw [h.dict]; trivial⟩ e (fun z => by cases z) fun tk => ⟨.bl b, H, I.tok tk, rfl, q⟩
end
/-! ### values of a suite: P is known of slots and heap; the heap grows -/
def SV (X : Cx) (P : L2.St → Hp → Prop) (e : Expr) (G : Hp → V → Prop) : Prop := ∃ t, PE X e t ∧ ∀ σ H (Q : VK), P σ H → (∀ v H2, Ext H H2 → G H2 v → Q v H2) → t σ H Q
def SVs (X : Cx) (P : L2.St → Hp → Prop) (es : List Expr) (ws : List V) : Prop := ∃ t, PA X es t ∧ ∀ σ H (Q : List V → Hp → Prop), P σ H → (∀ H2, Ext H H2 → Q ws H2) → t σ H Q
section
variable {X : Cx} {P : L2.St → Hp → Prop} {pos p1 p2 p3 : Pos} {e e2 : Expr} {es : List Expr} {G : Hp → V → Prop} {ws : List V}
theorem ext_upd {H : Hp} {p : Addr} {o : HO} (h : H p = none) : Ext H (upd H p o) := fun a u e => by rw [upd_ne (ne_of_none e h)]; exact e
theorem sv_str {x : Str} {j : Nat} : SV X P (.Constant (.str x) j pos) fun _ v => v = .str x := ⟨_, pe_str, fun σ H Q p q => q _ _ (Ext.refl _) rfl⟩
theorem svs_nil : SVs X P [] [] := ⟨_, pa_nil, fun σ H Q p q => q _ (Ext.refl _)⟩
theorem svs_cons {v : V} (mono : ∀ σ H H2, P σ H → Ext H H2 → P σ H2) (h : SV X P e fun _ w => w = v) (hs : SVs X P es ws) (he : starEach (e :: es) X.env = (false, eval e X.env) :: starEach es X.env) : SVs X P (e :: es) (v :: ws) := by
  obtain ⟨t, h1, h2⟩ := h
  obtain ⟨u, k1, k2⟩ := hs
  refine ⟨_, pa_cons h1 k1 he, fun σ H Q p q => h2 σ H _ p fun w H2 ex g => ?_⟩
  subst g
  exact k2 σ H2 _ (mono _ _ _ p ex) fun H3 ex3 => q H3 (ex.trans ex3)
theorem sv_list (hs : SVs X P es ws) (hl : ws.length ≤ sizeLine) : SV X P (.List es pos) fun H v => ∃ a, v = .ref a ∧ H a = some (.lst ws) := by
  obtain ⟨u, k1, k2⟩ := hs
  refine ⟨_, pe_lst k1, fun σ H Q p q => k2 σ H _ p fun H2 ex => ⟨hl, fun a ha => q _ _ (ex.trans (ext_upd ha)) ⟨a, rfl, upd_same⟩⟩⟩
theorem sv_isi {a C : Addr} {oe : Obj} {c : Value} {vc : V} {uc : Value} {b : Bool} {n x : Str} {i : Nat} (hP : ∀ σ H, P σ H → σ[i]? = some (some (.ref a))) (h : Hand X a oe C) (ex : exB X.K C = true) (e : PySem.W.kitOne X.K (.ref C) c = some b)
    (hi : X.N[i]? = some n) (hv : Vis X.env.scope n) (hd : (n == ("__debug__" : Str)) = false) (hcd : (n == ("__classdict__" : Str)) = false) (gx : PE X (.Name x p3) (tC vc)) (rc : ClsV vc c) (gi : Gl X "isinstance") (mi : X.mg "isinstance" = none) (hb : bootBuiltins "isinstance" = some (.builtin "isinstance"))
    (s1 : starEach [.Name n p2, .Name x p3] X.env = (false, eval (.Name n p2) X.env) :: starEach [.Name x p3] X.env) (s2 : starEach [.Name x p3] X.env = (false, eval (.Name x p3) X.env) :: starEach [] X.env) (hpl : (backTo pos (starEach [.Name x p3] X.env)).any (·.1) = false) :
    SV X P (.Call (.Name "isinstance" p1) [.Name n p2, .Name x p3] [] pos) fun _ v => v = .bl b := by
  refine ⟨_, pe_callB (call_isiE h ex e) gi mi hb (pa_cons (pe_var hi hv hd hcd) (pa_cons gx pa_nil s2) s1) (by decide) (by decide) s1 hpl, fun σ H Q p q => ?_⟩
  exact ⟨.ref a, hP σ H p, vc, rfl, rc, q _ _ (Ext.refl _) rfl⟩
theorem sv_split {x y : Str} {o : Expr} {apos : Pos} {ys : List Str} (ho : SV X P o fun _ v => v = .str x) (he : SV X P e fun _ v => v = .str y) (mono : ∀ σ H H2, P σ H → Ext H H2 → P σ H2) (h0 : (y.length == 0) = false) (h1 : x.length + 2 ≤ sizeLine) (hy : Txt.split x y = ys)
    (hs : starEach [e] X.env = [(false, eval e X.env)]) (hbase : attributeBase o "split" X.env (eval o X.env) = eval o X.env) (hline : (apos.endLine == pos.line) = true) :
    SV X P (.Call (.Attribute o "split" apos) [e] [] pos) fun H v => ∃ a, v = .ref a ∧ H a = some (.lst (ys.map V.str)) := by
  obtain ⟨t, a1, a2⟩ := ho
  obtain ⟨u, b1, b2⟩ := he
  refine ⟨_, pe_split a1 b1 hs hbase hline, fun σ H Q p q => a2 σ H _ p fun v H2 ex g => ⟨⟨x, g⟩, b2 σ H2 _ (mono _ _ _ p ex) fun w H3 ex3 g3 => ⟨x, y, g, by rw [g3], h0, h1, fun a ha => ?_⟩⟩⟩
  rw [hy]
  exact q _ _ ((ex.trans ex3).trans (ext_upd ha)) ⟨a, rfl, upd_same⟩
theorem sv_join {x : Str} {ys : List Str} {o : Expr} {apos : Pos} {w : Str} (ho : SV X P o fun _ v => v = .str x) (he : SV X P e fun H v => ∃ a, v = .ref a ∧ H a = some (.lst (ys.map V.str))) (mono : ∀ σ H H2, P σ H → Ext H H2 → P σ H2) (hz : (ys.map (·.length)).sum + ys.length * x.length ≤ 16777216) (hw : Txt.join x ys = w)
    (hs : starEach [e] X.env = [(false, eval e X.env)]) (hbase : attributeBase o "join" X.env (eval o X.env) = eval o X.env) (hline : (apos.endLine == pos.line) = true) :
    SV X P (.Call (.Attribute o "join" apos) [e] [] pos) fun _ v => v = .str w := by
  obtain ⟨t, a1, a2⟩ := ho
  obtain ⟨u, b1, b2⟩ := he
  refine ⟨_, pe_join a1 b1 hs hbase hline, fun σ H Q p q => a2 σ H _ p fun v H2 ex g => ⟨⟨x, g⟩, b2 σ H2 _ (mono _ _ _ p ex) fun u H3 ex3 g3 => ?_⟩⟩
  obtain ⟨a, rfl, ha⟩ := g3
  exact ⟨x, a, ys, g, rfl, .inl (SqL.of ha), hz, q _ _ (ex.trans ex3) (by rw [hw])⟩
theorem sv_or {x y z : Str} (h1 : SV X P e fun _ v => v = .str x) (h2 : SV X P e2 fun _ v => v = .str y) (mono : ∀ σ H H2, P σ H → Ext H H2 → P σ H2) (hl : x.length ≤ sizeLine) (hz : (if ((x.length : Int) != 0) = true then x else y) = z) :
    SV X P (.BoolOp .Or [e, e2] pos) fun _ v => v = .str z := by
  obtain ⟨t, a1, a2⟩ := h1
  obtain ⟨u, b1, b2⟩ := h2
  refine ⟨_, pe_orT a1 (pe_one b1), fun σ H Q p q => a2 σ H _ p fun v H2 ex g => ⟨((x.length : Int) != 0), by rw [g]; exact ⟨hl, rfl⟩, ?_⟩⟩
  split
  · rename_i c
    exact q _ _ ex (by rw [g, ← hz, if_pos c])
  · rename_i c
    exact b2 σ H2 _ (mono _ _ _ p ex) fun w H3 ex3 g3 => q _ _ (ex.trans ex3) (by rw [g3, ← hz, if_neg c])
end
/-! ### [x for x, y in zip(texts, bools) if y] -/
def chosen (ys : List Str) (bs : List Bool) : List Str := ((ys.zip bs).filter (·.2)).map (·.1)
theorem sel_vals : ∀ {ys : List Str} {bs : List Bool} {us : List Value}, Vals (ys.map V.str) us → Vals ((chosen ys bs).map V.str) (sel us bs)
  | [], bs, us, h => by cases h; cases bs <;> exact .nil
  | y :: ys, [], us, h => by cases h; exact .nil
  | y :: ys, b :: bs, us, h => by
    cases h with
    | cons r rr =>
      have ih := sel_vals (bs := bs) rr
      cases b with
      | false => exact ih
      | true => exact .cons r ih
theorem bools_vals : ∀ {bs : List Bool} {us : List Value}, Vals (bs.map V.bl) us → us = bs.map Value.bool
  | [], us, h => by cases h; rfl
  | b :: bs, us, h => by
    cases h with
    | cons r rr =>
      cases (show _ = Value.bool b from r)
      rw [bools_vals rr]; rfl
section
variable {X : Cx} {P : L2.St → Hp → Prop} {a C : Addr} {oe : Obj}
theorem sv_zip {ea eb : Expr} {ys : List Str} {bs : List Bool} {x y : Str} {px py pt pe pg pos zp zpos : Pos} {kk : Nat} {scope : Scope} (h : Hand X a oe C) (mono : ∀ σ H H2, P σ H → Ext H H2 → P σ H2)
    (h1 : SV X P ea fun H v => ∃ a, v = .ref a ∧ H a = some (.lst (ys.map V.str))) (h2 : SV X P eb fun H v => ∃ a, v = .ref a ∧ H a = some (.lst (bs.map V.bl))) (hlen : ys.length = bs.length)
    (hcell : (scope.names.all fun y => !decide (y.2 = .cell) && !decide (y.2 = .free)) = true) (hkind : scope.kind = .function) (hnames : (scope.names.all fun y => !decide (y.2 = .local) || decide (scope.names.lookup y.1 = some .local)) = true)
    (ha : scope.names.lookup x = some .local) (hb : scope.names.lookup y = some .local) (hxy : (x == y) = false) (dx : (x == ("__debug__" : Str)) = false) (dy : (y == ("__debug__" : Str)) = false)
    (gz : Gl X "zip") (mz : X.mg "zip" = none) (s1 : starEach [ea, eb] X.env = (false, eval ea X.env) :: starEach [eb] X.env) (s2 : starEach [eb] X.env = (false, eval eb X.env) :: starEach [] X.env) (hpl : (backTo zpos (starEach [eb] X.env)).any (·.1) = false)
    (hfs : ∀ x, foldedSetIterable (.Call (.Name "zip" zp) [ea, eb] [] zpos) X.env x = pure x) (hx : ∀ e s, X.xe e s ↔ False) :
    SV X P (.ListComp (.Name x pe) [⟨.Tuple [.Name x px, .Name y py] kk pt, .Call (.Name "zip" zp) [ea, eb] [] zpos, [.Name y pg], 0⟩] scope pos) fun H v => ∃ a, v = .ref a ∧ H a = some (.lst ((chosen ys bs).map V.str)) := by
  obtain ⟨t, a1, a2⟩ := h1
  obtain ⟨u, b1, b2⟩ := h2
  have pa := pa_cons a1 (pa_cons b1 pa_nil s2) s1
  have hxe : X.xe = fun _ _ => False := funext fun e => funext fun s => propext (hx e s)
  refine ⟨fun σ H Q => tCons t (tCons u tNil) σ H fun vs H2 => ∃ a b, vs = [.ref a, .ref b] ∧ H2 a = some (.lst (ys.map V.str)) ∧ H2 b = some (.lst (bs.map V.bl)) ∧ ∀ p, H2 p = none → Q (.ref p) (upd H2 p (.lst ((chosen ys bs).map V.str))), ⟨fun pins s σ H Q I q => ?_⟩, fun σ H Q p q => a2 σ H _ p fun v H1 ex g => b2 σ H1 _ (mono _ _ _ p ex) fun w H2 ex2 g2 => ?_⟩
  · rw [hxe]
    refine ListComp_goes (closure_ok fun y hy e => ?_) (fun y hy e => ?_) hkind (fun y hy e => ?_) (Call_ (ld_blt I gz mz PyProof.Rows.boot_zip (PyProof.Rows.callWith_type1 ?_ s1 hpl))) hfs
    · have := List.all_eq_true.mp hcell y hy
      simp only [Bool.and_eq_true, Bool.not_eq_true', decide_eq_false_iff_not] at this
      exact absurd e this.2
    · have := List.all_eq_true.mp hcell y hy
      simp only [Bool.and_eq_true, Bool.not_eq_true', decide_eq_false_iff_not] at this
      exact this.1 e
    · have := List.all_eq_true.mp hnames y hy
      simp only [Bool.or_eq_true, Bool.not_eq_true', decide_eq_false_iff_not, decide_eq_true_eq] at this
      rcases this with z | z
      · exact absurd e z
      · exact z
    · have run := pa.run zpos pins s σ H _ I q
      rw [hxe] at run
      refine thn run fun us s1 ⟨vs, H1, I1, r1, q1⟩ => ?_
      obtain ⟨pa, pb, rfl, la, lb, q1⟩ := q1
      cases r1 with
      | cons r rr =>
        cases r
        cases rr with
        | cons r rr =>
          cases r
          cases rr
          obtain ⟨its, rv, p1, z1⟩ := I1.list (.inl (.inl la))
          obtain ⟨its2, rv2, p2, _⟩ := I1.list (.inl (.inl lb))
          have e2 := bools_vals rv2
          subst e2
          have l1 : its.length = bs.length := by rw [← rv.length, List.length_map]; exact hlen
          refine zipCore (h.hot I1) l1 hkind ha hb (fun z => by rw [z] at hxy; simp at hxy) dx dy p1.isList p2.isList (by rw [← rv.length]; exact z1) fun D h' tk vs hD hpl hvs k => ?_
          subst hvs
          obtain ⟨n, en⟩ := hpl
          have cv := sel_vals (bs := bs) rv
          refine ⟨.ref D, _, I1.laid (o := .lst ((chosen ys bs).map V.str)) (t' := tk) (fun b o e => k b o e) hD ⟨?_, sel its bs, n, cv, en⟩, rfl, q1 D (I1.hok.fresh hD)⟩
          · have : (chosen ys bs).length ≤ ys.length := by
              unfold chosen
              rw [List.length_map]
              exact Nat.le_trans (List.length_filter_le _ _) (by rw [List.length_zip]; omega)
            rw [List.length_map]
            rw [List.length_map] at z1
            omega
  · obtain ⟨a, rfl, ha⟩ := g
    obtain ⟨b, rfl, hb⟩ := g2
    exact ⟨a, b, rfl, ex2 _ _ ha, hb, fun p hp => q _ _ ((ex.trans ex2).trans (ext_upd hp)) ⟨p, rfl, upd_same⟩⟩
end
end HZ

end

section
set_option autoImplicit false
set_option autoImplicit false
/-! A local name that holds a def; try .. except Class as e: return a word. -/
namespace DL
open PySem PySem.Spec PyProof.Rows L2
/-! ### the slot i holds one of the defs of tab -/
abbrev FTab := List (Str × Nat × MF)
def fCallV (tab : FTab) (i : Nat) (g : FA) : FE := fun n E S => match E[i]? with
  | some (some (.fz (.ref x))) => (match tab.lookup x with
    | some (np, m) => (g n E S).bind fun ds S1 => if ds.length = np then m ds S1 else .stk
    | none => .stk)
  | _ => .stk
structure TabOk (P : Program) (w : World) (K : PySem.W.Frag) (mg : Str → Option Value) (base : Heap) (k : Nat) (tab : FTab) : Prop where
  all : ∀ x np m, tab.lookup x = some (np, m) → ∃ j, j ≤ k ∧ FnD P w K mg base j (He.ga K x) np m
theorem tab_nil {P : Program} {w : World} {K : PySem.W.Frag} {mg : Str → Option Value} {base : Heap} {k : Nat} : TabOk P w K mg base k [] := ⟨fun _ _ _ h => by cases h⟩
theorem tab_cons {P : Program} {w : World} {K : PySem.W.Frag} {mg : Str → Option Value} {base : Heap} {k j np : Nat} {x : Str} {m : MF} {tab : FTab} (c : CalleeK P w K mg base x j np m) (g : mg x = some (.ref (He.ga K x))) (hj : j ≤ k) (h : TabOk P w K mg base k tab) :
    TabOk P w K mg base k ((x, np, m) :: tab) := by
  refine ⟨fun y np' m' e => ?_⟩
  rw [List.lookup_cons] at e
  split at e
  · rename_i q
    have q := beq_iff_eq.mp q
    subst q
    cases e
    obtain ⟨f, h1, h2⟩ := c.ex
    rw [g] at h1
    cases h1
    exact ⟨j, hj, h2⟩
  · exact h.all y np' m' e
section
variable {X : Cx} {B : Gr} {W : WX} {pos p1 : Pos} {e : Expr} {es : List Expr} {g : FA} {x : Str} {k i : Nat} {tab : FTab}
theorem q_callV (A : TabOk X.prog X.w X.K X.mg X.base k tab) (hr : Room k X.A) (v : Vr X i x) (tk : L2N.Takes X W) (ha : QA X B W (e :: es) g)
    (he : starEach (e :: es) X.env = (false, eval e X.env) :: starEach es X.env) (hpl : (backTo pos (starEach es X.env)).any (·.1) = false) : QE X B W (.Call (.Name x p1) (e :: es) [] pos) (fCallV tab i g) := by
  obtain ⟨t, h1, h2⟩ := ha
  refine ⟨fun σ H Q => ∃ y np m, σ[i]? = some (some (.ref (He.ga X.K y))) ∧ tab.lookup y = some (np, m) ∧ t σ H fun vs H1 => spD X.K np m vs H1 Q (WE W σ), ⟨fun pins s σ H Q I h => ?_⟩, fun n E S σ H Hf ρ Q r p => ?_⟩
  · obtain ⟨y, np, m, hs, hl, ht⟩ := h
    obtain ⟨j, hj, fd, ps, hps, F, hk, hb⟩ := A.all y np m hl
    refine wpAny_Call_Name_kw (thn ((pe_var (pos := p1) v.ix v.vis v.db v.cd).run pins s σ H (fun v H1 => v = .ref (He.ga X.K y) ∧ H1 = H) I ⟨_, hs, rfl, rfl⟩) fun u s1 ⟨v, H1, I1, r1, q1⟩ => ?_)
    obtain ⟨rfl, rfl⟩ := q1
    cases r1
    refine PySem.W.callWith_K (h₀ := X.base) I.ok.mod.kin hk (thn (h1.run pos pins s1 σ _ _ I1 ht) fun us s2 ⟨vs, H2, I2, r, q⟩ => ⟨I2.kIn, ?_⟩) he hpl
    exact run_fnS (E := WE W) F (hr.mono hj) hb (L2N.passAt tk σ) I2 r q
  · unfold fCallV at p
    split at p
    · rename_i y q
      split at p
      · rename_i np m hl
        obtain ⟨u, k1, k2⟩ := r.sl _ _ q
        cases (show u = .ref (He.ga X.K y) from k2)
        refine ⟨y, np, m, k1, hl, h2 n E S σ H Hf ρ _ r ?_⟩
        cases e1 : g n E S with
        | stk => rw [e1] at p; exact p
        | exc y S1 => rw [e1] at p; exact p
        | ok ds S1 =>
          rw [e1] at p
          intro vs H1 Hf1 ρ1 hr1 t1 w1
          have p : PostE X.K W σ H Hf ρ Q (if ds.length = np then m ds S1 else .stk) := p
          by_cases hz : ds.length = np
          · rw [if_pos hz] at p
            refine ⟨ds, S1, Hf1, ρ1, hz, hr1, w1, ?_⟩
            cases e2 : m ds S1 with
            | stk => rw [e2] at p; exact p
            | exc y S2 => rw [e2] at p; exact fun c od H' Hf' ρ' a b d => p c od H' Hf' ρ' a (t1.trans b) d
            | ok d S2 => rw [e2] at p; exact fun v H' Hf' ρ' a b d => p v H' Hf' ρ' a (t1.trans b) d
          · rw [if_neg hz] at p; exact p.elim
      · exact p.elim
    · exact p.elim
end
/-! ### try: body; except x as n: suite, where the suite gives a word -/
def wordOf (cs : List (Str × Str)) (x : Exc) : Option Str := match x.att with
  | none => cs.lookup x.cls
  | some _ => none
def fTryW (cs : List (Str × Str)) (fb : FS) : FS := fun n E S => match fb n E S with
  | .ex x _ S' => (match wordOf cs x with
    | some w => .rt (.str w) S'
    | none => .stk)
  | r => r
/-- a suite that gives the word w; slot i holds the error at a -/
def SuW (X : Cx) (i : Nat) (a : Addr) (st : List Stmt) (w : Str) : Prop := ∃ t, PSs X st t ∧ ∀ σ H (D : Ends), σ.length = X.N.length → σ[i]? = some (some (.ref a)) → (∀ H2, Ext H H2 → D.rt (.str w) H2) → t D σ H
theorem HR.ext {K : PySem.W.Frag} {H H2 Hf : Hp} {ρ : List Addr} {S : Store} (h : HR K H Hf ρ S) (x : Ext H H2) : HR K H2 Hf ρ S := by
  refine ⟨h.sub.trans x, h.len, h.nd, h.hd, fun n a c e1 e2 => ?_⟩
  have z := h.cell n a c e1 e2
  cases c with
  | lst l => obtain ⟨vs, z1, z2⟩ := z; exact ⟨vs, x _ _ z1, z2⟩
  | ins C fs => obtain ⟨dx, vs, z1, z2⟩ := z; exact ⟨dx, vs, x _ _ z1, z2⟩
  | tbl x' q' => obtain ⟨ea, ps, z1, z2⟩ := z; exact ⟨ea, ps, x _ _ z1, z2⟩
theorem Tr.ext {H Hf H' Hf' H2 : Hp} {ρ ρ' : List Addr} (t : Tr H Hf ρ H' Hf' ρ') (x : Ext H' H2) : Tr H Hf ρ H2 Hf' ρ' :=
  ⟨t.hf, t.pre, fun a o e n => x _ _ (t.keep a o e n), t.fresh, t.newh, fun a e z => by
    have q := t.alive a e
    cases z2 : H' a with
    | none => exact q z2
    | some o => rw [x _ _ z2] at z; cases z⟩
section
variable {X : Cx} {B : Gr} {W : WX} {P : Program} {w : World} {K : PySem.W.Frag} {mg : Str → Option Value} {base : Heap} {k : Nat} {N : List Str} {sc : Scope} {i : Nat} {x nm : Str} {c : Value} {body suite : List Stmt} {b₀ : Stmt} {np pos pos' : Pos} {fb : FS} {cs : List (Str × Str)}
theorem Bd.tr (h : Bd X W P w K mg base k N sc) {pn : List (Addr × Obj)} {xe : Value → Shared → Prop} {W' : WX} (tk : L2N.Takes (X.tr pn xe) W') (po : PassesOwn (model X.prog X.w) X.A X.env xe) : Bd (X.tr pn xe) W' P w K mg base k N sc :=
  ⟨⟨tk, po, h.cc.calm, h.cc.kd, h.cc.nd⟩, ⟨h.wd.hP, h.wd.hw, h.wd.hK, h.wd.hmg, h.wd.hb, h.wd.room⟩, h.hN, h.hsc, h.fn, h.tops⟩
theorem s_tryW (h : Bd X W P w K mg base k N sc) (ix : N[i]? = some nm) (ln : sc.names.lookup nm = some .local) (hc : Names X x c)
    (hm : ∀ q v, cs.lookup q = some v → PySem.W.exmOne K (.ref (He.ga K q)) c = some true)
    (hbody : ∀ W' pn xe, Bd (X.tr pn xe) W' P w K mg base k N sc → QSs (X.tr pn xe) B W' body fb)
    (hsu : ∀ q v, cs.lookup q = some v → ∀ a oe pn, HZ.Hand (X.suite a ((a, oe) :: pn)) a oe (He.ga K q) → SuW (X.suite a ((a, oe) :: pn)) i a (b₀ :: suite) v) :
    QS X B W (.Try body [.ExceptHandler (some (.Name x np)) (some nm) (b₀ :: suite) pos'] [] [] pos) (fTryW cs fb) := by
  have hK := h.wd.hK
  let tb : WX → TS := fun W' D σ H => ∃ n E S Hf ρ, Rel X.K B E S σ H Hf ρ ∧ PostS X.K W' B Hf ρ D (fb n E S)
  let ts : Addr → Value → Option Addr → TS := fun a cls d D σ H => ∃ q v, cs.lookup q = some v ∧ cls = .ref (He.ga K q) ∧ d = none ∧ (∃ σ0 : L2.St, σ = σ0.set i (some (.ref a))) ∧ ∀ H2, Ext H H2 → D.rt (.str v) H2
  refine ⟨fun D σ H => tb (wAs X.K c i ts W D) D σ H, L2N.ps_try_as (ts := ts) h.tops.1 h.tops.2 h.cc.nd (by rw [h.hN]; exact ix) (by show X.env.scope.names.lookup nm = _; rw [h.hsc]; exact ln) hc h.cc.tk (fun W' pn xe tk po => ?_) (fun a oe cls d pn hz hd => ⟨fun pins s σ H D I hh => ?_⟩), fun n E S σ H Hf ρ Q r p => ?_⟩
  · obtain ⟨t, a, b⟩ := hbody W' pn xe (h.tr tk po)
    exact ⟨fun pins s σ H D I ⟨n, E, S, Hf, ρ, r, p⟩ => a.run pins s σ H D I (b n E S σ H Hf ρ D r p)⟩
  · obtain ⟨q, v, hl, rfl, rfl, ⟨σ0, rfl⟩, hq⟩ := hh
    have hi : i < σ0.length := by
      have z := I.len
      rw [List.length_set] at z
      rw [z]
      exact (List.getElem?_eq_some_iff.mp (show X.N[i]? = some nm by rw [h.hN]; exact ix)).1
    have hs : (σ0.set i (some (V.ref a)))[i]? = some (some (.ref a)) := by rw [List.getElem?_set_self hi]
    obtain ⟨vs, hv⟩ := hd
    obtain ⟨t, a1, a2⟩ := hsu q v hl a oe pn ⟨List.mem_cons_self, hz.1, hz.2.1, ⟨vs, hv, hz.2.2 vs hv⟩, rfl⟩
    exact a1.run pins s _ H D I (a2 _ H D I.len hs hq)
  · refine ⟨n, E, S, Hf, ρ, r, ?_⟩
    unfold fTryW at p
    cases e1 : fb n E S with
    | nx E1 S1 => rw [e1] at p; exact p
    | bk E1 S1 => rw [e1] at p; exact p
    | ct E1 S1 => rw [e1] at p; exact p
    | rt d S1 => rw [e1] at p; exact p
    | stk => rw [e1] at p; exact p
    | ex y E1 S1 =>
      rw [e1] at p
      intro cl od σ1 H1 Hf1 ρ1 r1 x1 p1 ea
      cases hl : wordOf cs y with
      | none => simp only [hl] at p; exact p.elim
      | some v =>
        simp only [hl] at p
        obtain ⟨ec, eo⟩ := ea
        unfold wordOf at hl
        cases ha : y.att with
        | some z => rw [ha] at hl; cases hl
        | none =>
          rw [ha] at hl eo
          subst ec
          refine ⟨true, by rw [hK]; exact hm _ _ hl, fun _ a ha => ⟨y.cls, v, hl, by rw [hK], eo, ⟨σ1, rfl⟩, fun H2 ex => ?_⟩, fun z => by cases z⟩
          exact p (.str v) H2 Hf1 ρ1 (r1.hr.ext ex) (r1.tr.ext ex) rfl
end
end DL

end

section
set_option autoImplicit false
set_option autoImplicit false
/-! The suite of an except clause: some = [isinstance(e, ..), ..]; return a word. -/
namespace DL
open PySem PySem.Spec PyProof.Rows L2 HZ
/-- slot i holds the error -/
def PA1 (n i : Nat) (a : Addr) : L2.St → Hp → Prop := fun σ _ => σ.length = n ∧ σ[i]? = some (some (.ref a))
/-- .. and slot j the list of answers -/
def PA2 (n i j : Nat) (a : Addr) (ws : List V) : L2.St → Hp → Prop := fun σ H => PA1 n i a σ H ∧ ∃ b, σ[j]? = some (some (.ref b)) ∧ H b = some (.lst ws)
theorem pa1_mono {n i : Nat} {a : Addr} : ∀ (σ : L2.St) (H H2 : Hp), PA1 n i a σ H → Ext H H2 → PA1 n i a σ H2 := fun _ _ _ h _ => h
theorem pa2_mono {n i j : Nat} {a : Addr} {ws : List V} : ∀ (σ : L2.St) (H H2 : Hp), PA2 n i j a ws σ H → Ext H H2 → PA2 n i j a ws σ H2 := fun _ _ _ ⟨h, b, h1, h2⟩ x => ⟨h, b, h1, x _ _ h2⟩
theorem pa1_at {n i : Nat} {a : Addr} : ∀ (σ : L2.St) (H : Hp), PA1 n i a σ H → σ[i]? = some (some (.ref a)) := fun _ _ h => h.2
theorem pa2_at {n i j : Nat} {a : Addr} {ws : List V} : ∀ (σ : L2.St) (H : Hp), PA2 n i j a ws σ H → σ[i]? = some (some (.ref a)) := fun _ _ h => h.1.2
section
variable {X : Cx} {P : L2.St → Hp → Prop} {pos p1 p2 : Pos} {e e1 e2 : Expr} {i j : Nat} {a : Addr} {ws : List V} {w y : Str}
/-- the list of answers, read -/
theorem sv_some {n : Nat} (hi : X.N[j]? = some y) (hv : Vis X.env.scope y) (hd : (y == ("__debug__" : Str)) = false) (hcd : (y == ("__classdict__" : Str)) = false) : SV X (PA2 n i j a ws) (.Name y pos) fun H v => ∃ b, v = .ref b ∧ H b = some (.lst ws) :=
  ⟨_, pe_var hi hv hd hcd, fun σ H Q ⟨_, b, h1, h2⟩ q => ⟨.ref b, h1, q _ _ (Ext.refl _) ⟨b, rfl, h2⟩⟩⟩
/-- a + b, texts -/
theorem sv_cat {x z : Str} (h1 : SV X P e1 fun _ v => v = .str x) (h2 : SV X P e2 fun _ v => v = .str z) (mono : ∀ σ H H2, P σ H → Ext H H2 → P σ H2) (hl : x.length + z.length ≤ sizeLine) (hw : x ++ z = w) : SV X P (.BinOp e1 .Add e2 pos) fun _ v => v = .str w := by
  obtain ⟨t, a1, a2⟩ := h1
  obtain ⟨u, b1, b2⟩ := h2
  refine ⟨_, pe_op op_add_str a1 b1, fun σ H Q p q => a2 σ H _ p fun v H2 ex g => b2 σ H2 _ (mono _ _ _ p ex) fun v2 H3 ex3 g3 => ?_⟩
  exact ⟨x, z, g, g3, hl, q _ _ (ex.trans ex3) (by rw [hw])⟩
/-- one text or the other, by an isinstance -/
theorem sv_ifE {x z : Str} {b : Bool} (h : SV X P e fun _ v => v = .bl b) (h1 : SV X P e1 fun _ v => v = .str x) (h2 : SV X P e2 fun _ v => v = .str z) (mono : ∀ σ H H2, P σ H → Ext H H2 → P σ H2)
    (he : ∀ whole, isTrue e X.env whole = (do let v ← whole; standAt e.pos; holding [v] (truthy v))) (hw : (if b = true then x else z) = w) : SV X P (.IfExp e e1 e2 pos) fun _ v => v = .str w := by
  obtain ⟨t, a1, a2⟩ := h
  obtain ⟨u, b1, b2⟩ := h1
  obtain ⟨r, c1, c2⟩ := h2
  refine ⟨_, pe_ifExp (pt_val a1 he) b1 c1, fun σ H Q p q => a2 σ H _ p fun v H2 ex g => ⟨b, g, ?_⟩⟩
  show if b = true then u σ H2 Q else r σ H2 Q
  split
  · rename_i c
    exact b2 σ H2 _ (mono _ _ _ p ex) fun v H3 ex3 g3 => q _ _ (ex.trans ex3) (by rw [g3, ← hw, if_pos c])
  · rename_i c
    exact c2 σ H2 _ (mono _ _ _ p ex) fun v H3 ex3 g3 => q _ _ (ex.trans ex3) (by rw [g3, ← hw, if_neg c])
theorem su_two (hN : X.N.Nodup) (hj : X.N[j]? = some y) (hl : Loc X.env.scope y) (hij : i ≠ j) (hf : X.fn y = true ∨ X.env.scope.names.lookup y = some .local)
    (h1 : SV X (PA1 X.N.length i a) e1 fun H v => ∃ b, v = .ref b ∧ H b = some (.lst ws)) (hs : swapsWith e1 (some (.Name y p1)) p2.line X.env = pure false) (h2 : SV X (PA2 X.N.length i j a ws) e2 fun _ v => v = .str w) :
    SuW X i a [.Assign [.Name y p1] e1 p2, .Return (some e2) pos] w := by
  obtain ⟨t, a1, a2⟩ := h1
  obtain ⟨u, b1, b2⟩ := h2
  refine ⟨_, pss_cons (ps_set hN hj hl a1 hs hf) (pss_one (ps_ret b1)), fun σ H D hn hi q => a2 σ H _ ⟨hn, hi⟩ fun v H2 ex g => ?_⟩
  obtain ⟨b, rfl, hb⟩ := g
  have hjl : j < σ.length := by rw [hn]; exact (List.getElem?_eq_some_iff.mp hj).1
  exact b2 _ H2 _ ⟨⟨by rw [List.length_set]; exact hn, by rw [List.getElem?_set_ne (Ne.symm hij)]; exact hi⟩, b, by rw [List.getElem?_set_self hjl], hb⟩ fun v H3 ex3 g3 => by rw [g3]; exact q H3 (ex.trans ex3)
end
end DL

end

section
set_option autoImplicit false
set_option autoImplicit false
/-! What the head tells besides, for laws with an except clause. -/
namespace DL
open PySem PySem.Spec PyProof.Rows L2 HZ
structure HdX (xb : PySem.W.Frag → List Bool) (fa : List He.Fa) (fn : List He.DefD) (K : PySem.W.Frag) (mg : Str → Option Value) : Prop extends Hd fa fn K mg where
  x : (xb K).all id = true
theorem exf_at {l : List Bool} (h : l.all id = true) (i : Nat) {b : Bool} (e : l[i]? = some b) : b = true := List.all_eq_true.mp h b (List.mem_of_getElem? e)
def obsE (n : Nat) (fa : List He.Fa) (fn : List He.DefD) (ex : PySem.W.Frag → List Bool) (g : Addr → Option Obj) : He.AlD × Bool := (He.obsDG n fa fn g, (ex (He.frG g (He.asD g n))).all id)
def hookE (n : Nat) (fa : List He.Fa) (fn : List He.DefD) (ex : PySem.W.Frag → List Bool) : PySem.W.Hook where
  α := He.AlD × Bool
  obs := fun s => obsE n fa fn ex s.heap.get?
  val := fun _ => (He.valD fn, true)
  says := fun _ h => ∃ K : PySem.W.Frag, K.In h ∧ He.SaysD fa fn K ∧ (ex K).all id = true
  of := fun _ _ e => ⟨_, He.frG_in, congrArg (fun z : He.AlD × Bool => z.1) e, congrArg (fun z : He.AlD × Bool => z.2) e⟩
  keeps := fun _ _ _ ⟨K, hK, c⟩ k => ⟨K, PySem.W.Frag.In.keeps hK k, c⟩
theorem obsE_eq {n : Nat} {fa : List He.Fa} {fn : List He.DefD} {ex : PySem.W.Frag → List Bool} {g : Addr → Option Obj} {s : Shared} (h : ∀ a, g a = s.heap.get? a) : obsE n fa fn ex g = (hookE n fa fn ex).obs s := by
  have e : g = s.heap.get? := funext h
  rw [e] <;> rfl
theorem exm_of {K : PySem.W.Frag} {x y : Str} {b : Bool} (h : (He.Fa.exm x y b).ok K = true) : PySem.W.exmOne K (.ref (He.ga K x)) (.ref (He.ga K y)) = some b := of_decide_eq_true h
theorem scope_in {X : Cx} {s : Shared} {H : Hp} {sc sc1 : Scope} {cl : List (Str × Addr)} {C : Addr} {fp : List Addr} (hs : X.env.scope = sc) : (blkX X s H sc1 cl C fp).env.scope = relS sc1 sc := by subst hs; rfl
theorem blkC_in {X : Cx} {N : List Str} {s : Shared} {H : Hp} {sc sc1 sc2 : Scope} {cl : List (Str × Addr)} {C : Addr} {fp : List Addr} {own : List (Str × Nat)} (hN : X.N = N) (hs : X.env.scope = sc) (h : blkC N (relS sc1 sc) sc2 own = true) :
    blkC (blkX X s H sc1 cl C fp).N (blkX X s H sc1 cl C fp).env.scope sc2 own = true := by
  rw [scope_in hs]; subst hN; exact h
theorem lk_nil {P : Str → Str → Prop} : ∀ q v, ([] : List (Str × Str)).lookup q = some v → P q v := fun _ _ h => by cases h
theorem lk_cons {P : Str → Str → Prop} {q₁ v₁ : Str} {l : List (Str × Str)} (h : P q₁ v₁) (r : ∀ q v, l.lookup q = some v → P q v) : ∀ q v, ((q₁, v₁) :: l).lookup q = some v → P q v := fun q v e => by
  rw [List.lookup_cons] at e
  split at e
  · rename_i z
    cases beq_iff_eq.mp z
    cases e
    exact h
  · exact r q v e
section
variable {X : Cx} {W : WX} {P : Program} {w : World} {K : PySem.W.Frag} {mg : Str → Option Value} {base : Heap} {k : Nat} {N : List Str} {sc : Scope} {tab : FTab}
theorem Wd.tabs (h : Wd X P w K mg base k) (A : TabOk P w K mg base k tab) : TabOk X.prog X.w X.K X.mg X.base k tab := by
  obtain ⟨h1, h2, h3, h4, h5, _⟩ := h
  subst h1 h2 h3 h4 h5
  exact A
variable {Pr : L2.St → Hp → Prop} {a : Addr} {oe : Obj} {pn : List (Addr × Obj)} {q n x : Str} {i : Nat} {b : Bool} {p1 p2 p3 pos : Pos}
theorem isi_own (h : Bd X W P w K mg base k N sc) (hd : Hand (X.suite a ((a, oe) :: pn)) a oe (He.ga K q)) (hP : ∀ σ H, Pr σ H → σ[i]? = some (some (.ref a))) (ex : exB K (He.ga K q) = true)
    (e : PySem.W.kitOne K (.ref (He.ga K q)) (.ref (He.ga K x)) = some b) (v : Vr X i n) (g : Gl X x) (mx : mg x = some (.ref (He.ga K x))) (dx : nmB x = true) (gi : Gl X "isinstance") (mi : mg "isinstance" = none)
    (s1 : starEach [.Name n p2, .Name x p3] X.env = (false, eval (.Name n p2) X.env) :: starEach [.Name x p3] X.env) (s2 : starEach [.Name x p3] X.env = (false, eval (.Name x p3) X.env) :: starEach [] X.env) (hpl : (backTo pos (starEach [.Name x p3] X.env)).any (·.1) = false) :
    SV (X.suite a ((a, oe) :: pn)) Pr (.Call (.Name "isinstance" p1) [.Name n p2, .Name x p3] [] pos) fun _ v => v = .bl b := by
  have e3 := h.wd.hK
  have e4 := h.wd.hmg
  refine sv_isi (vc := .ref (He.ga K x)) (uc := .ref (He.ga K x)) (C := He.ga K q) hP hd (by show exB X.K _ = true; rw [e3]; exact ex) (by show PySem.W.kitOne X.K _ _ = _; rw [e3]; exact e) v.ix v.vis v.db v.cd
    (pe_glob (X := X.suite a ((a, oe) :: pn)) (u := .ref (He.ga K x)) g (by show X.mg x = _; rw [e4]; exact mx) rfl (nm_db dx)) (.own _) gi (by show X.mg _ = _; rw [e4]; exact mi) PyProof.Rows.boot_isinstance s1 s2 hpl
theorem isi_ty {T : String} (h : Bd X W P w K mg base k N sc) (hd : Hand (X.suite a ((a, oe) :: pn)) a oe (He.ga K q)) (hP : ∀ σ H, Pr σ H → σ[i]? = some (some (.ref a))) (ex : exB K (He.ga K q) = true)
    (e : PySem.W.kitOne K (.ref (He.ga K q)) (.type T) = some b) (v : Vr X i n) (g : Gl X x) (mx : mg x = none) (hv : bootBuiltins x = some (.type T)) (hn : x ≠ "__name__") (dx : nmB x = true) (gi : Gl X "isinstance") (mi : mg "isinstance" = none)
    (s1 : starEach [.Name n p2, .Name x p3] X.env = (false, eval (.Name n p2) X.env) :: starEach [.Name x p3] X.env) (s2 : starEach [.Name x p3] X.env = (false, eval (.Name x p3) X.env) :: starEach [] X.env) (hpl : (backTo pos (starEach [.Name x p3] X.env)).any (·.1) = false) :
    SV (X.suite a ((a, oe) :: pn)) Pr (.Call (.Name "isinstance" p1) [.Name n p2, .Name x p3] [] pos) fun _ v => v = .bl b := by
  have e3 := h.wd.hK
  have e4 := h.wd.hmg
  refine sv_isi (vc := .ty T) (uc := .type T) (C := He.ga K q) hP hd (by show exB X.K _ = true; rw [e3]; exact ex) (by show PySem.W.kitOne X.K _ _ = _; rw [e3]; exact e) v.ix v.vis v.db v.cd
    (pe_bltn (X := X.suite a ((a, oe) :: pn)) (v := .ty T) g (by show X.mg x = _; rw [e4]; exact mx) hv rfl hn (nm_db dx)) (.ty _) gi (by show X.mg _ = _; rw [e4]; exact mi) PyProof.Rows.boot_isinstance s1 s2 hpl
end
end DL

end

section
set_option autoImplicit false
set_option autoImplicit false
/-! enumerate over a tuple. -/
namespace PySem
open AutoSeq1 (wpAny_loadPart')
theorem meets_enumerate_newT (l : Addr) (items : Array Value) (n : Nat) (dct : Option Addr) (sl : Array (Option Value)) :
    Meets (Builtin.«enumerate.__new__» ⟨[.type "enumerate", .ref l], []⟩) (fun _ R s => s.heap.get? l = some { cls := .type "tuple", dict := dct, data := .seq items n, slots := sl } ∧
      R (.ok (.ret (.ref (s.heap.push { cls := .type "tuple_iterator", data := .fields #[.ref l, .int 0 0] }).objs.size)))
        { s with heap := (s.heap.push { cls := .type "tuple_iterator", data := .fields #[.ref l, .int 0 0] }).push { cls := .type "enumerate", data := .fields #[.none, .bool false, .ref s.heap.objs.size, rawInt 0, .none, .none] } }) :=
  .of_wp fun prog w A R s h => by
    obtain ⟨hp, g, d, tk, os⟩ := s
    obtain ⟨hl, h⟩ := h
    have hsub := sub_enumerate
    have hT : Heap.IsTuple (Shared.heap ⟨hp, g, d, tk, os⟩) l items := ⟨_, hl, rfl, n, rfl⟩
    wp_walk using wpAny_loadPart' hl
    refine wpAny_stack_any fun st => wpAny_pure ?_
    split
    · rename_i c _ _ _ _ _
      cases (c == Value.type "enumerate")
      · wp_walk using wpAny_loadPart' hl, wpAny_pyIter_tuple hT
        exact ⟨_, rfl, h⟩
      · wp_walk using wpAny_loadPart' hl, wpAny_pyIter_tuple hT
        exact ⟨_, rfl, h⟩
    · wp_walk using wpAny_loadPart' hl, wpAny_pyIter_tuple hT
      exact ⟨_, rfl, h⟩
section
variable {prog : Program} {w : World} {A : Around} {E : Value → Shared → Prop} {s : Shared}
theorem call_enumerate_tuple {l : Addr} {items : Array Value} {Q : Value → Shared → Prop} (hL : s.heap.IsTuple l items)
    (h : ∀ h', IsEnum h' (s.heap.objs.size + 1) s.heap.objs.size 0 .none → h'.IsTupleIter s.heap.objs.size l 0 → h'.objs.size = s.heap.objs.size + 2 →
      (∀ b o, s.heap.get? b = some o → h'.get? b = some o) → Q (.ref (s.heap.objs.size + 1)) { s with heap := h' }) :
    wpAny (model prog w) A (call (.type "enumerate") [.ref l]) Q E s := by
  obtain ⟨⟨c, dct, dt, sl⟩, hl, hc, n, hd⟩ := hL
  replace hc : c = .type "tuple" := hc
  replace hd : dt = .seq items n := hd
  subst hc hd
  refine callType_new F.called_enumerate (by decide) (F.typeCall_enumerate_1 _) (F.newCall_enumerate_1 _) (fun obj => F.args_object_init_2 obj _) F.entry_enumerate_new
    (meets_enumerate_newT l items n dct sl) ⟨hl, ?_⟩
  have hz : (s.heap.push { cls := .type "tuple_iterator", data := .fields #[.ref l, .int 0 0] }).objs.size = s.heap.objs.size + 1 := Heap.size_push ..
  show _ ∧ _
  rw [hz]
  have he : IsEnum ((s.heap.push { cls := .type "tuple_iterator", data := .fields #[.ref l, .int 0 0] }).push
      { cls := .type "enumerate", data := .fields #[.none, .bool false, .ref s.heap.objs.size, rawInt 0, .none, .none] }) (s.heap.objs.size + 1) s.heap.objs.size 0 .none := by
    have := Heap.get?_push_size (s.heap.push { cls := .type "tuple_iterator", data := .fields #[.ref l, .int 0 0] })
      (o := { cls := .type "enumerate", data := .fields #[.none, .bool false, .ref s.heap.objs.size, rawInt 0, .none, .none] }) rfl
    rw [hz] at this
    exact this
  refine ⟨⟨_, he, rfl⟩, h _ he ⟨_, Heap.get?_push_of_some _ (Heap.get?_push_size _ rfl), rfl, rfl⟩ (by rw [Heap.size_push, hz]) fun b o x => Heap.get?_push_of_some _ (Heap.get?_push_of_some _ x)⟩
theorem pyNext_enumT_end {e it t : Addr} {i : Nat} {c : Int} {items : Array Value} {old : Value} {Q : Option Value → Shared → Prop} (hh : A.handled = none)
    (he : IsEnum s.heap e it c old) (hit : s.heap.IsTupleIter it t i) (ht : s.heap.IsTuple t items) (hx : items[i]? = none)
    (hQ : ∀ h', Heap.ExtBut it s.heap h' → Q none { s with heap := h' }) : wpAny (model prog w) A (pyNext (.ref e)) Q E s := by
  have hT : s.TypeIs (.ref e) "enumerate" := ⟨_, he, rfl⟩
  unfold pyNext
  refine wpAny_bind (wpAny_attempt (wpAny_callSpecial?_slot (name := Str.ofString "__next__") hT F.slot_enumerate_next
    (wpAny_call_entry F.slot_enumerate_next hT F.entry_enumerate_next ?_ (F.args_enumerate_next_1 _))))
  show wpAny _ _ (field (.ref e) 2 >>= _) _ _ _
  refine wpAny_bind (wpAny_field he rfl (x := .ref it) rfl ?_)
  refine wpAny_bind (wpAny_nextOf_tuple_end (show A.in1.handled = none from hh) hit ht hx fun h' x k hx' => ?_)
  obtain ⟨o, ho, hc⟩ := hx'
  exact wpAny_bind (wpAny_isInstance (T := "StopIteration") (b := true) ⟨o, ho, hc⟩ isSubtype_stop (wpAny_pure (hQ _ k)))
end
end PySem
namespace DL
open PySem PySem.Spec PyProof.Rows L2
/-- the tuple at a, each item in a new pair -/
def ItT (K : PySem.W.Frag) (a : Addr) : It :=
  ⟨fun i H => ∃ (xs : List V) (x : V), SqT K H a xs ∧ xs[i]? = some x, fun i H v H' => ∃ T x, v = .ref T ∧ H T = none ∧ H' = upd H T (.tup [.int (i : Nat), x]) ∧ ∀ xs, SqT K H a xs → xs[i]? = some x, fun i H => ∃ xs : List V, SqT K H a xs ∧ xs.length ≤ i⟩
theorem turn_enumT {P : Program} {w : World} {K : PySem.W.Frag} {elts : List Expr} {kk : Nat} {tpos : Pos} (a e it : Addr) :
    Turn P w K (.Tuple elts kk tpos) (ItT K a) [e, it] e (fun i h => (∃ old, IsEnum h e it ((i : Nat) : Int) old) ∧ h.IsTupleIter it a i ∧ e ≠ it ∧ a ≠ it ∧ e ≠ a) where
  mem := by simp
  obj := fun i h st b hb => by
    obtain ⟨⟨old, he⟩, ⟨o, ho, hc, hd⟩, _⟩ := st
    have e' : b = e ∨ b = it := by simpa using hb
    rcases e' with z | z
    · rw [z]; exact ⟨_, he, fun v q => nomatch q⟩
    · rw [z]; exact ⟨o, ho, fun v q => by rw [hd] at q; cases q⟩
  keep := fun i h h' st k => let ⟨⟨old, he⟩, hi, hne⟩ := st; ⟨⟨old, k e (by simp) _ he⟩, hi.at fun o q => k it (by simp) o q, hne⟩
  item := by
    intro X hP hw hK hc i pins s σ H E I hf st hg
    subst hP hw hK
    obtain ⟨⟨old, he⟩, hit, hne, hat, hea⟩ := st
    obtain ⟨xs, x, hq, hx⟩ := hg
    obtain ⟨its, rv, p, hz⟩ := I.tuple hq
    obtain ⟨u, hu, ru⟩ := rv.get hx
    have hel : e < s.heap.objs.size := Heap.lt_size he
    have hil : it < s.heap.objs.size := by obtain ⟨_, q, _⟩ := hit; exact Heap.lt_size q
    have hil2 : i < its.length := (List.getElem?_eq_some_iff.mp hu).1
    refine wpAny_pyNext_enum_itemD (Draws.tuple (show X.A.in1.handled = none from I.ok.hd hc) it a hat its.toArray) he ⟨hit, show s.heap.IsTuple a its.toArray from p⟩ (by simpa using hil2) hne (by simp [hne, hea]) fun u' h' tk hu' ho hit' hT hsz hk => ?_
    have eu : u' = u := by
      have : its.toArray[i]? = some u := by simpa using hu
      rw [this] at hu'; cases hu'; rfl
    subst eu
    refine ⟨_, rfl, wpAny_letOwnedTupleGo_enum (s := { s with heap := h', toks := tk + 1 }) ho fun h'' he' sb => ?_⟩
    have hT2 : h''.get? s.heap.objs.size = some { cls := .type "tuple", data := .seq #[.int i tk, u'] } := (sb.2 _ (Nat.ne_of_gt hel)).trans hT
    have new : ObjOk X.prog X.w (upd H s.heap.objs.size (.tup [.int (i : Nat), x])) h'' s.heap.objs.size (.tup [.int (i : Nat), x]) :=
      ⟨by show 2 ≤ sizeLine; decide, [.int i tk, u'], .cons ⟨_, rfl⟩ (.cons ru .nil), ⟨_, hT2, rfl, _, rfl⟩⟩
    have I1 : Inv X pins σ (upd H s.heap.objs.size (.tup [.int (i : Nat), x])) { s with heap := h'', toks := tk + 1 } :=
      I.turnedNew (ch := [e, it]) (fun b ob hb q => (sb.2 b (fun z => hb (by simp [z]))).trans (hk b ob (fun z => hb (by simp [z])) (fun z => hb (by simp [z])) q)) hf (Nat.le_refl _) new
    refine ⟨.ref s.heap.objs.size, _, I1, rfl, ⟨_, x, rfl, I.hok.fresh (Nat.le_refl _), rfl, fun ys hy => by rw [I.tuple_inj hy hq]; exact hx⟩, ⟨⟨u', ?_⟩, hit'.1.at fun o q => (sb.2 it (Ne.symm hne)).trans q, hne, hat, hea⟩, fun b hb => ?_⟩
    · have e1 : ((i + 1 : Nat) : Int) = (i : Int) + 1 := by omega
      rw [e1]; exact he'
    · have hb' : b < s.heap.objs.size := by
        have e' : b = e ∨ b = it := by simpa using hb
        rcases e' with z | z
        · rw [z]; exact hel
        · rw [z]; exact hil
      rw [upd_ne (Nat.ne_of_lt hb')]
      exact (hf b hb).1
  done := by
    intro X hP hw hK hc i pins s σ H E I hf st hg
    subst hP hw hK
    obtain ⟨⟨old, he⟩, hit, hne, hat, hea⟩ := st
    obtain ⟨xs, hq, hx⟩ := hg
    obtain ⟨its, rv, p, hz⟩ := I.tuple hq
    obtain ⟨f0, f1, f2, f3, f4, f5⟩ := hf it (by simp)
    have hl := rv.length
    exact pyNext_enumT_end (I.ok.hd hc) he hit (show s.heap.IsTuple a its.toArray from p) (by simp; omega) fun h' eb => ⟨rfl, I.turned (t' := s.toks) (fun b o hb q => eb b o hb q) f0 f1 f3 f4 f5⟩
  self := fun A i s Q E st h => let ⟨⟨_, he⟩, _⟩ := st; wpAny_pyIter_enum he h
def iEnumT (K : PySem.W.Frag) (ta : TA) : TI := fun σ H R => ta σ H fun vs H1 => ∃ a xs, vs = [.ref a] ∧ SqT K H1 a xs ∧ R (ItT K a) H1
theorem pi_enumT {X : Cx} {e : Expr} {ta : TA} {p pos tpos : Pos} {elts : List Expr} {kk : Nat} (hg : Gl X "enumerate") (hm : X.mg "enumerate" = none) (ha : PA X [e] ta) (hs : starEach [e] X.env = [(false, eval e X.env)]) :
    PI X (.Tuple elts kk tpos) (.Call (.Name "enumerate" p) [e] [] pos) (iEnumT X.K ta) := by
  refine ⟨fun pins s σ H R I h => ?_⟩
  refine Call_ (ld_blt I hg hm boot_enumerate (PyProof.Rows.callWith_type1 (thn (ha.run pos pins s σ H _ I h) fun us s1 ⟨vs, H1, I1, r1, q1⟩ => ?_) hs rfl))
  obtain ⟨a, xs, rfl, hq, q⟩ := q1
  cases r1 with
  | cons r rr =>
    cases rr
    cases r
    obtain ⟨its, rv, p', hz⟩ := I1.tuple hq
    have hal : a < s1.heap.objs.size := by obtain ⟨_, z, _⟩ := (show s1.heap.IsTuple a its.toArray from p'); exact Heap.lt_size z
    refine call_enumerate_tuple (show s1.heap.IsTuple a its.toArray from p') fun h' he hit hsz hk => wpAny_pyIter_enum he ?_
    have I2 : Inv X pins σ H1 { s1 with heap := h' } := I1.kept (t' := s1.toks) hk
    refine ⟨s1.heap.objs.size + 1, [s1.heap.objs.size + 1, s1.heap.objs.size], _, _, H1, rfl, I2, turn_enumT a (s1.heap.objs.size + 1) s1.heap.objs.size, ⟨⟨.none, he⟩, hit, Nat.succ_ne_self _, Nat.ne_of_lt hal, ?_⟩, fun b hb => ?_, q⟩
    · exact Ne.symm (Nat.ne_of_lt (Nat.lt_succ_of_lt hal))
    · have e' : b = s1.heap.objs.size + 1 ∨ b = s1.heap.objs.size := by simpa using hb
      have hle : s1.heap.objs.size ≤ b := by
        rcases e' with z | z
        · rw [z]; exact Nat.le_add_right _ _
        · rw [z]; exact Nat.le_refl _
      exact I1.fpOk hle (I1.hok.fresh hle)
/-- of a list or a tuple -/
def enumS? : List D → Option (List D)
  | [.lst l] => some (enumD 0 l)
  | [.tup l] => some (enumD 0 l)
  | _ => none
section
variable {K : PySem.W.Frag} {Hf : Hp} {ρ : List Addr}
theorem walk_enumL {a : Addr} {xs : List V} {l : List D} (k1 : Hf a = some (.lst xs)) (k2 : Dts K Hf ρ l xs) : WalkD K (Ite K a) (enumD 0 l) Hf ρ := by
  intro H1 Hf1 ρ1 S1 hr ex pr i
  have g1 : SqL K H1 a xs := SqL.of (hr.sub _ _ (ex _ _ k1))
  refine ⟨fun d e => ?_, fun hl => ⟨xs, g1, by rw [enumD_len] at hl; rw [← k2.length]; omega⟩⟩
  obtain ⟨da, x1, rfl⟩ := enumD_get e
  obtain ⟨va, y1, y2⟩ := k2.get x1
  refine ⟨⟨xs, va, g1, y1⟩, fun x H2 y => ?_⟩
  obtain ⟨T, u1, rfl, hT, rfl, z1⟩ := y
  have z1 := z1 xs g1
  rw [y1] at z1; cases z1
  exact pair_new (a := .int (0 + i : Nat)) (x := .int (i : Nat)) hr hT (by simp [Dt]) (y2.mono ex pr)
theorem walk_enumT {a : Addr} {xs : List V} {l : List D} (k1 : SqT K Hf a xs) (k2 : Dts K Hf ρ l xs) : WalkD K (ItT K a) (enumD 0 l) Hf ρ := by
  intro H1 Hf1 ρ1 S1 hr ex pr i
  have g1 : SqT K H1 a xs := hr.sub.sqT (ex.sqT k1)
  refine ⟨fun d e => ?_, fun hl => ⟨xs, g1, by rw [enumD_len] at hl; rw [← k2.length]; omega⟩⟩
  obtain ⟨da, x1, rfl⟩ := enumD_get e
  obtain ⟨va, y1, y2⟩ := k2.get x1
  refine ⟨⟨xs, va, g1, y1⟩, fun x H2 y => ?_⟩
  obtain ⟨T, u1, rfl, hT, rfl, z1⟩ := y
  have z1 := z1 xs g1
  rw [y1] at z1; cases z1
  exact pair_new (a := .int (0 + i : Nat)) (x := .int (i : Nat)) hr hT (by simp [Dt]) (y2.mono ex pr)
end
section
variable {X : Cx} {B : Gr} {W : WX} {fa : FA} {p1 pos : Pos}
theorem i_enumS {e : Expr} {elts : List Expr} {kk : Nat} {tpos : Pos} (hb : Blt X "enumerate") (ha : QA X B W [e] fa) (hs : starEach [e] X.env = [(false, eval e X.env)]) : QI X B W (.Tuple elts kk tpos) (.Call (.Name "enumerate" p1) [e] [] pos) (fLift enumS? fa) := by
  obtain ⟨t, a1, a2⟩ := ha
  refine ⟨_, pi_or (pi_enum hb.gl hb.free a1 hs) (pi_enumT hb.gl hb.free a1 hs), fun n E S σ H Hf ρ R r p => ?_⟩
  cases e1 : fa n E S with
  | stk => unfold fLift at p; rw [e1] at p; exact p.elim
  | exc y S1 =>
    unfold fLift at p; rw [e1] at p
    exact .inl (a2 n E S σ H Hf ρ _ r (by rw [e1]; exact p))
  | ok ds S1 =>
    unfold fLift at p; rw [e1] at p
    have p : PostI X.K W σ H Hf ρ R (match enumS? ds with | some l => .ok l S1 | none => .stk) := p
    cases e2 : enumS? ds with
    | none => rw [e2] at p; exact p.elim
    | some lr =>
      rw [e2] at p
      unfold enumS? at e2
      split at e2
      · rename_i l
        cases e2
        refine .inl (a2 n E S σ H Hf ρ _ r ?_)
        rw [e1]
        intro vs H' Hf' ρ' h1 h2 w
        obtain ⟨v1, r1, rfl, w1, w2⟩ := w
        cases w2
        obtain ⟨a, xs, rfl, k1, k2⟩ := (show Dt X.K Hf' ρ' (.lst l) v1 from w1)
        exact ⟨a, xs, rfl, SqL.of (h1.sub _ _ k1), p _ H' Hf' ρ' h1 h2 (walk_enumL k1 k2)⟩
      · rename_i l
        cases e2
        refine .inr (a2 n E S σ H Hf ρ _ r ?_)
        rw [e1]
        intro vs H' Hf' ρ' h1 h2 w
        obtain ⟨v1, r1, rfl, w1, w2⟩ := w
        cases w2
        obtain ⟨a, xs, rfl, k1, k2⟩ := (show Dt X.K Hf' ρ' (.tup l) v1 from w1)
        exact ⟨a, xs, rfl, h1.sub.sqT k1, p _ H' Hf' ρ' h1 h2 (walk_enumT k1 k2)⟩
      · cases e2
end
end DL

end

section
set_option autoImplicit false
set_option autoImplicit false
/-! A lambda is made, with or without a default value. -/
namespace DL
open PySem PySem.Spec PyProof.Rows L2
abbrev lamFn (qual : Str) (params : Arguments) (body : Expr) (scope : Scope) (cl : List (Str × Addr)) (pm cdv ct dV : Value) : FuncData := { PySem.W.kla_fn "<lambda>" qual params body scope cl pm cdv ct with defaults := dV }
abbrev lamObj (qual : Str) (params : Arguments) (body : Expr) (scope : Scope) (cl : List (Str × Addr)) (pm cdv ct dV : Value) : Obj := { cls := .type "function", data := .func (lamFn qual params body scope cl pm cdv ct dV) }
section
variable {M : Model} {A : Around} {E : Value → Shared → Prop} {s : Shared} {qual : Str} {params : Arguments} {body : Expr} {scope : Scope} {env : PySem.Env} {c P : Addr} {ps : Array Value} {pos : Pos} {fl : Nat} {mg : Str → Option Value}
  {cl : List (Str × Addr)} {Q : Value → Shared → Prop} {dV : Value}
/-- what follows when the object stands: its code object is new, or told by the table -/
structure AfterLam (s : Shared) (qual : Str) (params : Arguments) (body : Expr) (scope : Scope) (cl : List (Str × Addr)) (pm dV : Value) (P : Addr) (ps : Array Value) (pos : Pos) (Q : Value → Shared → Prop) : Prop where
  new : codeAmong pos ps.toList = none → ∀ (c' : Addr) (ctv : Value) (h' : Heap) (tk : Tok), Heap.ExtBut P s.heap h' → s.heap.objs.size ≤ c' → c' < h'.objs.size → h'.CodeRec (.ref c') qual → h'.get? P = some { cls := .none, data := .fields (ps ++ #[rawInt pos.line, rawInt pos.col, .ref c']) } →
    Q (.ref h'.objs.size) { s with heap := h'.push (lamObj qual params body scope cl pm (.ref c') ctv dV), toks := tk }
  old : ∀ cv, codeAmong pos ps.toList = some cv → ∀ (ctv : Value) (h' : Heap) (tk : Tok), (∀ b o, s.heap.get? b = some o → h'.get? b = some o) → s.heap.objs.size ≤ h'.objs.size →
    Q (.ref h'.objs.size) { s with heap := h'.push (lamObj qual params body scope cl pm cv ctv dV), toks := tk }
/-- the maker's code object, table and globals -/
structure Maker (env : PySem.Env) (mg : Str → Option Value) (c P : Addr) (ps : Array Value) (h : Heap) : Prop where
  glob : env.globals = mainGlobals
  ns : h.Ns mainGlobals mg
  code : env.code = .ref c
  hd : PySem.W.CodeHd h c P
  tab : h.get? P = some { cls := .none, data := .fields ps }
  ok : TriplesOk ps.toList
  gP : mainGlobals ≠ P
  bm : h.BuiltinsAt mg P
theorem Maker.keeps {h h' : Heap} (m : Maker env mg c P ps h) (k : ∀ b o, h.get? b = some o → h'.get? b = some o) : Maker env mg c P ps h' :=
  ⟨m.glob, m.ns.keeps k, m.code, m.hd.keeps k, k _ _ m.tab, m.ok, m.gP, m.bm.keeps k⟩
theorem lam_fd {ct : Value} {h1 : Heap} (m : Maker env mg c P ps h1) (k : ∀ b o, s.heap.get? b = some o → h1.get? b = some o) (hs : s.heap.objs.size ≤ h1.objs.size) (hQ : AfterLam s qual params body scope cl ((mg "__name__").getD .none) dV P ps pos Q) :
    wpAny M A (do
      let fd : FuncData := { name := "<lambda>", qualname := qual, params, body := .expr body, scope, globals := mainGlobals, closure := cl, closureTuple := ct,
                             code := ← functionCode env pos fl "<lambda>" qual params scope (.expr body), builtins := ← builtinsFor mainGlobals env.builtins,
                             defaults := dV, kwdefaults := .none, annotations := none, pyModule := (← nsGet mainGlobals "__name__").getD .none, doc := ← pure Value.none }
      newObj (.type "function") (.func fd)) Q E { s with heap := h1 } := by
  obtain ⟨bm, ob, b1, b2, _, b3, b4, b5, b6, b7⟩ := m.bm
  cases hc : codeAmong pos ps.toList with
  | none =>
    refine wpAny_bind (wpAny_functionCodeX m.code (m.hd.code m.tab m.ok) (m.hd.tab m.tab) hc fun c' h' tk x ge lt _ rc tb _ => ?_)
    have ns' := m.ns.extBut x m.gP
    exact wpAny_bind (wpAny_builtinsFor ns' b1 b2 (x _ _ b3 b4) b5 b6 b7 (wpAny_bind (wpAny_nsGet ns' (wpAny_bind (wpAny_pure (wpAny_newObj_type (hQ.new hc c' ct h' tk (fun b o n e => x b o n (k b o e)) (Nat.le_trans hs ge) lt rc tb.2) (by size_fits)))))))
  | some cv =>
    refine wpAny_bind (wpAny_functionCode_hit m.code (m.hd.code m.tab m.ok) hc ?_)
    exact wpAny_bind (wpAny_builtinsFor m.ns b1 b2 b4 b5 b6 b7 (wpAny_bind (wpAny_nsGet m.ns (wpAny_bind (wpAny_pure (wpAny_newObj_type (hQ.old cv hc ct h1 s.toks k hs) (by size_fits)))))))
theorem lam_tail (m : Maker env mg c P ps s.heap) (hcl : closureFor scope env = pure cl) (hQ : AfterLam s qual params body scope cl ((mg "__name__").getD .none) dV P ps pos Q) :
    wpAny M A (makeTail "<lambda>" qual params (.expr body) scope env dV .none none pos fl) Q E s := by
  unfold makeTail
  rw [hcl, m.glob]
  refine wpAny_bind (wpAny_pure ?_)
  cases cl with
  | nil =>
    rw [if_pos (show ([] : List (Str × Addr)).isEmpty = true from rfl)]
    exact wpAny_bind (wpAny_pure (lam_fd m (fun _ _ e => e) (Nat.le_refl _) hQ))
  | cons q r =>
    rw [if_neg (show ¬ ((q :: r).isEmpty = true) from by simp)]
    refine wpAny_bind (wpAny_newTextTuple ?_)
    exact lam_fd (m.keeps fun b o e => Heap.get?_push_of_some _ e) (fun b o e => Heap.get?_push_of_some _ e) (by rw [Heap.size_push]; omega) hQ
end
end DL

end

section
set_option autoImplicit false
set_option autoImplicit false
/-! A lambda is made: over the data. -/
namespace DL
open PySem PySem.Spec PyProof.Rows L2
theorem HR.code {K : PySem.W.Frag} {H Hf : Hp} {ρ : List Addr} {S : Store} {n c P : Addr} {x q : Str} {ps more : Array Value} (h : HR K H Hf ρ S) (hn : ρ[n]? = some P) (hS : S[n]? = some (.tbl x q)) (hP : H P = some (.tbl ps)) (hc : H c = none) (t : TabF (upd Hf c (LamX.CodeO c q)) q (ps ++ more)) :
    HR K (upd (upd H P (.tbl (ps ++ more))) c (LamX.CodeO c q)) (upd Hf c (LamX.CodeO c q)) ρ S ∧ Tr H Hf ρ (upd (upd H P (.tbl (ps ++ more))) c (LamX.CodeO c q)) (upd Hf c (LamX.CodeO c q)) ρ := by
  have nP : Hf P = none := h.hd n P hn
  have hfc : Hf c = none := h.hnone hc
  have cr : c ∉ ρ := h.notin hc
  have nPc : P ≠ c := fun z => by rw [z, hc] at hP; cases hP
  have ex : Ext Hf (upd Hf c (LamX.CodeO c q)) := fun a u e => by
    have : a ≠ c := fun z => by subst z; rw [hfc] at e; cases e
    rw [upd_ne this]; exact e
  refine ⟨⟨fun a u e => ?_, h.len, h.nd, fun m a e => ?_, fun m a cl e1 e2 => ?_⟩, ⟨ex, Pre.refl _, fun a u e na => ?_, fun a e => ?_, fun a e => .inl e, fun a e => ?_⟩⟩
  · by_cases z : a = c
    · subst z; rw [upd_same] at e ⊢; exact e
    · rw [upd_ne z] at e ⊢
      have : a ≠ P := fun z2 => by subst z2; rw [nP] at e; cases e
      rw [upd_ne this]; exact h.sub a u e
  · have : a ≠ c := fun z => cr (z ▸ mem_of_get e)
    rw [upd_ne this]; exact h.hd m a e
  · have ac : a ≠ c := fun z => cr (z ▸ mem_of_get e1)
    have q0 := h.cell m a cl e1 e2
    by_cases z : m = n
    · subst z
      rw [hn] at e1; cases e1
      rw [hS] at e2; cases e2
      obtain ⟨ea, _⟩ := q0
      exact ⟨ea, ps ++ more, by rw [upd_ne ac, upd_same], t⟩
    · have aP : a ≠ P := fun z2 => z (by subst z2; exact h.nd m n _ e1 hn)
      have at_ : upd (upd H P (.tbl (ps ++ more))) c (LamX.CodeO c q) a = H a := by rw [upd_ne ac, upd_ne aP]
      cases cl with
      | lst l => obtain ⟨vs, x1, y⟩ := q0; exact ⟨vs, by rw [at_]; exact x1, y.mono ex (Pre.refl _)⟩
      | ins C fs => obtain ⟨dx, gs, x1, y⟩ := q0; exact ⟨dx, gs, by rw [at_]; exact x1, Dfs.mono ex (Pre.refl _) _ _ y⟩
      | tbl x' q' => obtain ⟨ea, ps', x1, y⟩ := q0; exact ⟨ea, ps', by rw [at_]; exact x1, y.mono ex⟩
  · have aP : a ≠ P := fun z => na (z ▸ mem_of_get hn)
    have ac : a ≠ c := fun z => by subst z; rw [hc] at e; cases e
    rw [upd_ne ac, upd_ne aP]; exact e
  · by_cases z : a = c
    · subst z; exact .inr hc
    · rw [upd_ne z] at e; exact .inl e
  · by_cases z : a = c
    · subst z; rw [upd_same]; simp
    · rw [upd_ne z]
      by_cases z2 : a = P
      · subst z2; rw [upd_same]; simp
      · rw [upd_ne z2]; exact e
theorem TabF.more {Hf : Hp} {q : Str} {ps : Array Value} {c : Addr} {pos : Pos} (t : TabF Hf q ps) (hc : Hf c = none) : TabF (upd Hf c (LamX.CodeO c q)) q (ps ++ #[rawInt pos.line, rawInt pos.col, .ref c]) := by
  have e : (ps ++ #[rawInt pos.line, rawInt pos.col, Value.ref c]).toList = ps.toList ++ [rawInt pos.line, rawInt pos.col, .ref c] := by simp
  unfold TabF
  rw [e]
  refine ⟨PySem.TriplesOk_snoc _ _ _ _ t.1, fun p cv h => ?_⟩
  rcases LamX.among_app _ t.1 h with z | z
  · obtain ⟨c0, e1, e2⟩ := t.2 p cv z
    exact ⟨c0, e1, by rw [upd_ne (fun z => by subst z; rw [hc] at e2; cases e2)]; exact e2⟩
  · exact ⟨c, z, upd_same⟩
/-- the maker of lambdas: the def x's code object, its table -/
structure MkOk (X : Cx) (x : Str) : Prop where
  tb : LamX.TabB X.base X.mg (He.codeOf X.K (x, none)) (He.tabOf X.K (He.codeOf X.K (x, none)))
  code : X.env.code = .ref (He.codeOf X.K (x, none))
/-- what stands when a lambda was made -/
structure LamAt (X : Cx) (qual : Str) (params : Arguments) (body : Expr) (scope : Scope) (dv : List Value) (f c' : Addr) (H : Hp) (h : Heap) : Prop where
  obj : ∃ pm ctv dV, h.get? f = some (lamObj qual params body scope (cloFrom X.env.cells scope.names []) pm (.ref c') ctv dV) ∧ (if dv = [] then dV = .none else ∃ T o n, dV = .ref T ∧ h.get? T = some o ∧ o.data = .seq dv.toArray n ∧ H T = none ∧ T ∉ frs X.stack)
  none : H f = Option.none
  nofr : f ∉ frs X.stack
section
variable {X : Cx} {pins : List (Addr × Obj)} {σ : L2.St} {H Hf : Hp} {ρ : List Addr} {S : Store} {s : Shared} {x : Str} {n : Nat} {params : Arguments} {body : Expr} {scope : Scope} {pos : Pos} {E : Value → Shared → Prop} {Q : Value → Shared → Prop}
theorem nofr_new (I : Inv X pins σ H s) {f : Addr} (h : s.heap.objs.size ≤ f) : f ∉ frs X.stack := fun z => by
  rcases List.mem_cons.mp (I.stkSub _ z) with e | e
  · have h1 := I.lt
    rw [← e] at h1
    exact Nat.lt_irrefl _ (Nat.lt_of_lt_of_le h1 h)
  · exact I.nofs h e
/-- the default values stand at dV, the rest is as AfterLam asks -/
theorem lam_rest {s1 : Shared} {dV : Value} {dv : List Value} (I : Inv X pins σ H s1) (hr : HR X.K H Hf ρ S) (M : MkOk X x) (hn : ρ[n]? = some (He.tabOf X.K (He.codeOf X.K (x, none)))) (hS : S[n]? = some (.tbl x (X.env.qual ++ "<lambda>")))
    (hfree : ∀ y ∈ scope.names, y.2 = .free → ∃ c, X.env.cells.lookup y.1 = some c)
    (hd : if dv = [] then dV = .none else ∃ T o k, dV = .ref T ∧ s1.heap.get? T = some o ∧ o.data = .seq dv.toArray k ∧ H T = none ∧ T ∉ frs X.stack ∧ ∀ o2 : Obj, s1.heap.get? T = some o2 → (∀ vs, o2.data ≠ .fields vs))
    (hQ : ∀ (f c' : Addr) (H1 Hf1 : Hp) (s' : Shared), Inv X pins σ H1 s' → HR X.K H1 Hf1 ρ S → Tr H Hf ρ H1 Hf1 ρ → LamAt X (X.env.qual ++ "<lambda>") params body scope dv f c' H1 s'.heap → Hf1 c' = some (LamX.CodeO c' (X.env.qual ++ "<lambda>")) → Q (.ref f) s') :
    wpAny (model X.prog X.w) X.A (makeTail "<lambda>" (X.env.qual ++ "<lambda>") params (.expr body) scope X.env dV .none none pos pos.line) Q E s1 := by
  obtain ⟨ea, ps, hP, ht⟩ := hr.cell n _ _ hn hS
  have hP' : s1.heap.get? (He.tabOf X.K (He.codeOf X.K (x, none))) = some { cls := .none, data := .fields ps } := I.hok _ _ hP
  refine lam_tail (c := He.codeOf X.K (x, none)) (mg := X.mg) (ps := ps) ⟨I.ok.glob, I.mod.glob.keeps I.bk, M.code, M.tb.code.keeps I.bk, hP', ht.1, M.tb.gP, M.tb.bm.keeps I.bk⟩ (closure_ok hfree) ⟨fun hc c' ctv h' tk k ge lt rc tb => ?_, fun cv hc ctv h' tk k ge => ?_⟩
  · obtain ⟨c2, oc, vs, t, e2, hoc, hdt, hv⟩ := rc
    cases e2
    have nC : H c' = none := I.hok.fresh ge
    have I1 := LamX.inv_table (t' := tk) (more := #[rawInt pos.line, rawInt pos.col, .ref c']) (h' := h'.push (lamObj (X.env.qual ++ "<lambda>") params body scope (cloFrom X.env.cells scope.names []) ((X.mg "__name__").getD .none) (.ref c') ctv dV)) (q := X.env.qual ++ "<lambda>") I hP
      (fun b o hb e => Heap.get?_push_of_some _ (k b o hb e)) (Heap.get?_push_of_some _ tb) ge ⟨oc, vs, t, Heap.get?_push_of_some _ hoc, hdt, hv⟩
    obtain ⟨r1, r2⟩ := hr.code hn hS hP nC (ht.more (pos := pos) (hr.hnone nC))
    have hfs : s1.heap.objs.size ≤ h'.objs.size := Nat.le_trans ge (Nat.le_of_lt lt)
    have szf : upd (upd H (He.tabOf X.K (He.codeOf X.K (x, none))) (.tbl (ps ++ #[rawInt pos.line, rawInt pos.col, .ref c']))) c' (LamX.CodeO c' (X.env.qual ++ "<lambda>")) h'.objs.size = none := by
      rw [upd_ne (Nat.ne_of_gt lt), upd_ne (Nat.ne_of_gt (Nat.lt_of_lt_of_le (Heap.lt_size hP') hfs))]
      exact I.hok.fresh hfs
    refine hQ _ c' _ _ _ I1 r1 r2 ⟨⟨_, _, dV, Heap.get?_push_size _ rfl, ?_⟩, szf, nofr_new I hfs⟩ upd_same
    split at hd
    · rw [if_pos (by assumption)]; exact hd
    · rw [if_neg (by assumption)]
      obtain ⟨T, o, kk, e1, e2, e3, e4, e5, e6⟩ := hd
      have tP : T ≠ He.tabOf X.K (He.codeOf X.K (x, none)) := fun z => by rw [z, hP] at e4; cases e4
      have tc : T ≠ c' := Nat.ne_of_lt (Nat.lt_of_lt_of_le (Heap.lt_size e2) ge)
      exact ⟨T, o, kk, e1, Heap.get?_push_of_some _ (k T o tP e2), e3, by rw [upd_ne tc, upd_ne tP]; exact e4, e5⟩
  · obtain ⟨c', rfl, hco⟩ := ht.2 pos cv hc
    have I1 : Inv X pins σ H { s1 with heap := h'.push (lamObj (X.env.qual ++ "<lambda>") params body scope (cloFrom X.env.cells scope.names []) ((X.mg "__name__").getD .none) (.ref c') ctv dV), toks := tk } := I.kept fun b o e => Heap.get?_push_of_some _ (k b o e)
    refine hQ _ c' H Hf _ I1 hr (Tr.refl _ _ _) ⟨⟨_, _, dV, Heap.get?_push_size _ rfl, ?_⟩, I.hok.fresh ge, nofr_new I ge⟩ hco
    split at hd
    · rw [if_pos (by assumption)]; exact hd
    · rw [if_neg (by assumption)]
      obtain ⟨T, o, kk, e1, e2, e3, e4, e5, _⟩ := hd
      exact ⟨T, o, kk, e1, Heap.get?_push_of_some _ (k T o e2), e3, e4, e5⟩
end
end DL

end

section
set_option autoImplicit false
set_option autoImplicit false
/-! A lambda is called. -/
namespace DL
open PySem PySem.Spec PyProof.Rows L2
/-- the names of a lambda: captured ones, globals, and parameters that the maker's list does not hold -/
structure LmS (N : List Str) (sc scope : Scope) (ps : List Str) : Prop where
  kind : scope.kind = .function
  co : scope.isCoroutine = false
  gen : scope.isGenerator = false
  nocell : ∀ y ∈ scope.names, y.2 ≠ .cell
  loc : ∀ y ∈ scope.names, y.2 = .local → y.1 ∉ N
  par : ∀ p ∈ ps, scope.names.lookup p = some .local
  free : ∀ y ∈ scope.names, y.2 = .free → sc.names.lookup y.1 = some .cell ∨ sc.names.lookup y.1 = some .free
def lmSB (N : List Str) (sc scope : Scope) (ps : List Str) : Bool :=
  decide (scope.kind = .function) && !scope.isCoroutine && !scope.isGenerator && ps.all (fun p => decide (scope.names.lookup p = some .local)) &&
    scope.names.all fun y => !decide (y.2 = .cell) && (!decide (y.2 = .local) || !N.contains y.1) && (!decide (y.2 = .free) || decide (sc.names.lookup y.1 = some .cell) || decide (sc.names.lookup y.1 = some .free))
theorem lmS_by {N : List Str} {sc scope : Scope} {ps : List Str} (h : lmSB N sc scope ps = true) : LmS N sc scope ps := by
  unfold lmSB at h
  simp only [Bool.and_eq_true, Bool.or_eq_true, Bool.not_eq_true', decide_eq_true_eq, decide_eq_false_iff_not, List.all_eq_true] at h
  obtain ⟨⟨⟨⟨h1, h2⟩, h3⟩, h4⟩, h5⟩ := h
  refine ⟨h1, h2, h3, fun y hy => (h5 y hy).1.1, fun y hy e m => ?_, h4, fun y hy e => ?_⟩
  · rcases (h5 y hy).1.2 with z | z
    · exact z e
    · rw [List.contains_eq_mem, decide_eq_false_iff_not] at z
      exact z m
  · rcases (h5 y hy).2 with (z | z) | z
    · exact absurd e z
    · exact .inl z
    · exact .inr z
theorem LmS.has {X : Cx} {scope : Scope} {ps : List Str} (L : LmS X.N X.env.scope scope ps) (ok : X.Ok) : ∀ y ∈ scope.names, y.2 = .free → ∃ c, X.env.cells.lookup y.1 = some c := fun y hy e =>
  (L.free y hy e).elim (fun k => ok.has _ (.inl k)) fun k => ok.has _ (.inr k)
/-- the context of the body; what leaves it is told with its context -/
abbrev lamX (X : Cx) (A : Around) (outer : List PySem.Env) (s : Shared) (H : Hp) (E : XK) (scope : Scope) (f c' : Addr) : Cx :=
  { LamX.lamCx X A outer s H E scope f c' with
    xe := fun e s' => wpAny (model X.prog X.w) (A.deeper (LamX.lamEnv X scope s.heap.objs.size f c')) (leaving (LamX.lamEnv X scope s.heap.objs.size f c') e) (fun _ s'' => L2N.CX X.prog X.w outer H s E e s'') (fun e' s'' => L2N.CX X.prog X.w outer H s E e' s'') s' }
section
variable {X : Cx} {pins : List (Addr × Obj)} {σ : L2.St} {H HZ : Hp} {s s1 : Shared}
theorem lam_enter {A : Around} {outer : List PySem.Env} {E : XK} {scope : Scope} {ps : List Str} {binds : List (Str × Value)} {f c' : Addr} {h₁ : Heap} {tk : Nat} (I : Inv X pins σ H s) (L : LmS X.N X.env.scope scope ps) (e0 : Env0 X.prog X.w X.K X.mg X.base A outer s1 HZ) (hd : A.handled = none)
    (un : Un (frs X.stack) [] H HZ s.heap s1.heap) (hns : h₁.Ns s1.heap.objs.size fun y => binds.reverse.lookup y) (kp : ∀ b o, s1.heap.get? b = some o → h₁.get? b = some o) :
    Inv (lamX X A outer s1 HZ E scope f c') [] σ HZ { s1 with heap := h₁, toks := tk } := by
  have hfree := L.has I.ok
  have up : ∀ {y c}, (cloFrom X.env.cells scope.names []).lookup y = some c → X.env.cells.lookup y = some c := fun {y c} e => by
    rcases cloFrom_mem (PySem.mem_of_lookup e) with hm | ⟨h1, h2⟩
    · cases hm
    · obtain ⟨c1, hc⟩ := hfree _ h1 rfl
      have hc : X.env.cells.lookup y = some c1 := hc
      rw [h2, hc] <;> rfl
  have down : ∀ {y}, scope.names.lookup y = some .free → ∃ c, (cloFrom X.env.cells scope.names []).lookup y = some c := fun {y} hl =>
    mem_lookup (cloFrom_has (cells := X.env.cells) (acc := []) (PySem.mem_of_lookup hl))
  have stays : ∀ {c : Addr} {v : Option Value}, H c = none → s.heap.IsCell c v → h₁.IsCell c v := fun {c v} n ⟨o, ho, hd⟩ => by
    obtain ⟨sl, q⟩ := un.any ho n (by simp)
    exact ⟨_, kp _ _ q, hd⟩
  have none_ex : ∀ b : Addr, b ∉ (lamX X A outer s1 HZ E scope f c').ex := fun b z => absurd (show b ∈ ([] : List Addr) from z) (by simp)
  constructor
  · constructor
    · exact e0.mod
    · exact L.kind
    · rfl
    · rfl
    · exact Nat.le_refl _
    · exact fun y z c e1 e2 => I.ok.inj y z c (up e1) (up e2)
    · intro y hy
      have hy : scope.names.lookup y = some .cell ∨ scope.names.lookup y = some .free := hy
      exact hy.elim (fun h => absurd rfl (L.nocell _ (PySem.mem_of_lookup h))) down
    · intro y c z
      exact absurd (show false = true from z) (by simp)
    · exact fun _ => hd
    · exact Around.frames_deeper e0.frames
    · exact .inr ⟨rfl, rfl⟩
    · exact fun b z => absurd z (none_ex b)
    · exact e0.bs
    · exact e0.bsz
    · exact fun b _ _ => none_ex b
    · exact fun b z => absurd z (none_ex b)
    · exact e0.funs
    · exact e0.frf
  · rfl
  · exact e0.bare
  · exact Un.kept kp
  · refine ⟨_, hns, fun i y v e1 e2 e3 => ?_⟩
    have e3 : Vis scope y := e3
    rcases e3 with k | k | k
    · exact absurd (List.mem_of_getElem? e1) (L.loc _ (PySem.mem_of_lookup k) rfl)
    · exact absurd rfl (L.nocell _ (PySem.mem_of_lookup k))
    · obtain ⟨m, hn, hl⟩ := I.loc
      obtain ⟨w', r, q⟩ := hl i y v e1 e2 ((L.free _ (PySem.mem_of_lookup k) rfl).elim (fun k => .inr (.inl k)) (fun k => .inr (.inr k)))
      obtain ⟨c2, h2⟩ := down k
      have c1 := up h2
      refine ⟨w', r, .inr ⟨.inr k, c2, h2, ?_⟩⟩
      rcases q with ⟨k', _⟩ | ⟨_, c3, e', z⟩
      · have k' : X.env.scope.names.lookup y = some .local := k'
        rcases L.free _ (PySem.mem_of_lookup k) rfl with k2 | k2
        · rw [show X.env.scope.names.lookup y = some .cell from k2] at k'; cases k'
        · rw [show X.env.scope.names.lookup y = some .free from k2] at k'; cases k'
      · rw [c1] at e'
        cases e'
        exact stays (I.freeC y _ c1) z
  · intro y c e
    obtain ⟨w', z⟩ := I.cell y c (up e)
    exact ⟨w', stays (I.freeC y c (up e)) z⟩
  · exact e0.hok.fresh (Nat.le_refl _)
  · intro y c e
    obtain ⟨v, o, ho, hd⟩ := I.cell y c (up e)
    exact un.free c o ho (I.freeC y c (up e)) (by simp)
  · exact fun q hq => absurd (show q ∈ ([] : List (Addr × Obj)) ++ [] from hq) (by simp)
  · exact e0.hok.kept kp
  · exact I.len
end
end DL

end

section
set_option autoImplicit false
set_option autoImplicit false
/-! A lambda is called. -/
namespace DL
open PySem PySem.Spec PyProof.Rows L2
/-- how the parameters of a lambda are bound when it is called without arguments -/
def LamBinds (qual : Str) (params : Arguments) (body : Expr) (scope : Scope) (ps : List Str) (dv : List Value) : Prop :=
  ∀ (cl : List (Str × Addr)) (pm cv ctv dV : Value) (s : Shared), (if dv = [] then dV = .none else ∃ T o n, dV = .ref T ∧ s.heap.get? T = some o ∧ o.data = .seq dv.toArray n) →
    BindsTo s (lamFn qual params body scope cl pm cv ctv dV) ⟨[], []⟩ (ps.zip dv)
section
variable {X : Cx} {pins : List (Addr × Obj)} {σ : L2.St} {H HZ : Hp} {s s1 : Shared}
theorem lam_call {A : Around} {outer : List PySem.Env} {E : XK} {params : Arguments} {body : Expr} {scope : Scope} {ps : List Str} {dv : List Value} {f c' : Addr} {k : Nat} {Q : VK} {tb : TE} (I : Inv X pins σ H s) (L : LmS X.N X.env.scope scope ps)
    (at_ : LamAt X (X.env.qual ++ "<lambda>") params body scope dv f c' H s.heap) (un : Un (frs X.stack) [] H HZ s.heap s1.heap) (e0 : Env0 X.prog X.w X.K X.mg X.base A outer s1 HZ) (lim : s1.heap.NoLimit) (hc : HZ c' = some (LamX.CodeO c' (X.env.qual ++ "<lambda>")))
    (hb : LamBinds (X.env.qual ++ "<lambda>") params body scope ps dv) (hr : Room (k + 1) A)
    (hbody : Room k (A.deeper (LamX.lamEnv X scope s1.heap.objs.size f c')) → PE (lamX X A outer s1 HZ E scope f c') body tb) (ht : tb σ HZ Q) :
    codeAny (model X.prog X.w) A (.call (.ref f) ⟨[], []⟩) (CR (L2N.CX X.prog X.w) outer X.prog X.w HZ s1 Q E) s1 := by
  obtain ⟨⟨pm, ctv, dV, ho, hdv⟩, hfn, hfr⟩ := at_
  have keep : ∀ b o, s.heap.get? b = some o → H b = none → b ∉ frs X.stack → s1.heap.get? b = some o := fun b o e n nb => un.keep b o e n nb (fun z => nomatch (show b ∈ ([] : List Addr) from z))
  have of1 := keep f _ ho hfn hfr
  obtain ⟨⟨oc, vs, t, hoc, hdc, hvc⟩, _, _⟩ := e0.hok c' _ hc
  refine PySem.W.kla_callFunE hr.depth of1 rfl L.co L.gen rfl ⟨c', oc, vs, t, rfl, hoc, hdc, hvc⟩ ?_
  refine hb _ pm _ ctv dV s1 ?_ _ _ _ _ ?_
  · split at hdv
    · rw [if_pos (by assumption)]; exact hdv
    · rw [if_neg (by assumption)]
      obtain ⟨T, o, n, h1, h2, h3, h4, h5⟩ := hdv
      exact ⟨T, o, n, h1, keep T o h2 h4 h5, h3⟩
  · refine wpAny_newFunctionEnv (fun y hy => L.nocell y hy) (fun y hy => L.par _ (List.of_mem_zip hy).1) (fun h₁ hns hsb => ⟨lim.fresh _ hsb, ?_⟩) L.kind
    have kp : ∀ b o, s1.heap.get? b = some o → h₁.get? b = some o := fun b o e => hsb.extBut b o (Nat.ne_of_lt (Heap.lt_size e)) (Heap.get?_push_of_some _ e)
    have J : Inv (lamX X A outer s1 HZ E scope f c') [] σ HZ { s1 with heap := h₁, toks := s1.toks + (ps.zip dv).length } := lam_enter I L e0 hr.hd un hns kp
    refine PySem.W.kla_codeExpr (wpAny_mono ((hbody (hr.deeper _)).run [] _ σ HZ Q J ht) (fun v s' hq => ?_) fun e s' hq => hq)
    obtain ⟨w', H', J', rv, q⟩ := hq
    exact ⟨w', H', J'.os, J'.bare, J'.base, J'.hok, rv, q⟩
end
end DL

end

section
set_option autoImplicit false
set_option autoImplicit false
/-! x(lambda: ..), where x catches errors of what it calls and tells a word. -/
namespace DL
open PySem PySem.Spec PyProof.Rows L2 HZ
section
variable {X : Cx} {pins : List (Addr × Obj)} {σ : L2.St} {H Hf : Hp} {ρ : List Addr} {S : Store} {s : Shared} {x : Str} {n : Nat} {params : Arguments} {body : Expr} {scope : Scope} {pos : Pos} {E : Value → Shared → Prop} {Q : Value → Shared → Prop}
/-- the default values of a lambda, as they are evaluated -/
def DfOk (X : Cx) (params : Arguments) (dv : List Int) : Prop := (dv = [] ∧ defaultsOf params X.env = ([], [])) ∨ ∃ z k p, dv = [z] ∧ defaultsOf params X.env = ([eval (.Constant (.int z) k p) X.env], [])
theorem lam_ev {dv : List Int} (I : Inv X pins σ H s) (hr : HR X.K H Hf ρ S) (M : MkOk X x) (hn : ρ[n]? = some (He.tabOf X.K (He.codeOf X.K (x, none)))) (hS : S[n]? = some (.tbl x (X.env.qual ++ "<lambda>")))
    (hfree : ∀ y ∈ scope.names, y.2 = .free → ∃ c, X.env.cells.lookup y.1 = some c) (hd : DfOk X params dv)
    (hQ : ∀ (f c' : Addr) (H1 Hf1 : Hp) (s' : Shared) (us : List Value), us.length = dv.length → Inv X pins σ H1 s' → HR X.K H1 Hf1 ρ S → Tr H Hf ρ H1 Hf1 ρ → LamAt X (X.env.qual ++ "<lambda>") params body scope us f c' H1 s'.heap → Hf1 c' = some (LamX.CodeO c' (X.env.qual ++ "<lambda>")) → Q (.ref f) s') :
    wpAny (model X.prog X.w) X.A (eval (.Lambda params body scope pos) X.env) Q E s := by
  rcases hd with ⟨rfl, hd⟩ | ⟨z, kk, p, rfl, hd⟩
  · refine PySem.W.kla_eval hd ?_
    rw [makeFunction_eq]
    simp only [List.zip_nil_right, List.filterMap_nil, List.isEmpty_nil, if_true, pure_bind]
    exact lam_rest (dv := []) I hr M hn hS hfree (by rw [if_pos rfl]) fun f c' H1 Hf1 s' a b c d e => hQ f c' H1 Hf1 s' [] rfl a b c d e
  · rw [arm_eval_Lambda, hd]
    show wpAny _ _ (do
      let dv ← evalAll [eval (.Constant (.int z) kk p) X.env]
      let kdv ← holding dv (evalAllOpt [])
      makeFunction "<lambda>" (X.env.qual ++ "<lambda>") params (.expr body) scope X.env dv kdv [] pos pos.line) Q E s
    refine wpAny_bind (wpAny_bind (wpAny_Constant_int ?_))
    refine wpAny_bind (wpAny_holding (wpAny_pure (wpAny_pure ?_)))
    refine wpAny_bind (wpAny_holding (wpAny_pure ?_))
    rw [makeFunction_eq]
    simp only [List.zip_nil_right, List.filterMap_nil, List.isEmpty_nil, List.isEmpty_cons, if_true, pure_bind]
    rw [if_neg (by decide)]
    refine wpAny_bind (wpAny_newTextTuple ?_)
    have I2 : Inv X pins σ H { s with heap := s.heap.push { cls := .type "tuple", data := .seq [Value.int z s.toks].toArray }, toks := s.toks + 1 } := I.kept fun b o e => Heap.get?_push_of_some _ e
    refine lam_rest (dv := [Value.int z s.toks]) I2 hr M hn hS hfree ?_ fun f c' H1 Hf1 s' a b c d e => hQ f c' H1 Hf1 s' _ rfl a b c d e
    rw [if_neg (by simp)]
    exact ⟨s.heap.objs.size, _, _, rfl, Heap.get?_push_size _ rfl, rfl, I.hok.fresh (Nat.le_refl _), nofr_new I (Nat.le_refl _), fun o2 e vs z2 => by
      rw [Heap.get?_push_size _ rfl] at e; cases e; cases z2⟩
end
end DL

end

section
set_option autoImplicit false
set_option autoImplicit false
/-! x(lambda: ..), where x catches errors of what it calls and tells a word. -/
namespace DL
open PySem PySem.Spec PyProof.Rows L2 HZ
/-- the def that catches: its parameter a is called, errors of c get a word of cs -/
theorem try_lam {Z : Cx} {W : WX} {P : Program} {w : World} {K : PySem.W.Frag} {mg : Str → Option Value} {base : Heap} {k : Nat} {N : List Str} {sc : Scope} {i : Nat} {x nm a : Str} {c : Value} {suite : List Stmt} {b₀ : Stmt} {p1 p2 p3 p4 p5 p6 np pos' : Pos} {j : Nat} {cs : List (Str × Str)} {tc : WX → TE}
    (h : Bd Z W P w K mg base k N sc) (ix : N[i]? = some nm) (ln : sc.names.lookup nm = some .local) (hc : Names Z x c)
    (hm : ∀ q v, cs.lookup q = some v → PySem.W.exmOne K (.ref (He.ga K q)) c = some true)
    (hsu : ∀ q v, cs.lookup q = some v → ∀ a oe pn, Hand (Z.suite a ((a, oe) :: pn)) a oe (He.ga K q) → SuW (Z.suite a ((a, oe) :: pn)) i a (b₀ :: suite) v)
    (hs : swapsWith (.Call (.Name a p1) [] [] p2) none p3.line Z.env = pure false)
    (hcall : ∀ (W' : WX) pn xe, L2N.Takes (Z.tr pn xe) W' → PE (Z.tr pn xe) (.Call (.Name a p1) [] [] p2) (tc W')) :
    PSs Z [.Try [.Expr (.Call (.Name a p1) [] [] p2) p3] [.ExceptHandler (some (.Name x np)) (some nm) (b₀ :: suite) pos'] [] [] p4, .Return (some (.Constant (.str "") j p5)) p6]
      (fun D σ H => tc (fun cls d σ1 H1 => ∃ q v, cs.lookup q = some v ∧ cls = .ref (He.ga K q) ∧ d = none ∧ ∀ H2, Ext H1 H2 → D.rt (.str v) H2) σ H fun _ H1 => D.rt (.str "") H1) := by
  have hK := h.wd.hK
  let ts : Addr → Value → Option Addr → TS := fun a cls d D σ H => ∃ q v, cs.lookup q = some v ∧ cls = .ref (He.ga K q) ∧ d = none ∧ (∃ σ0 : L2.St, σ = σ0.set i (some (.ref a))) ∧ ∀ H2, Ext H H2 → D.rt (.str v) H2
  let tb : WX → TS := fun W' D σ H => ∃ W1 : WX, (∀ c1 d1 σ1 H1, W1 c1 d1 σ1 H1 → W' c1 d1 σ1 H1) ∧ tc W1 σ H fun _ H1 => D.nx σ H1
  have st : PS Z (.Try [.Expr (.Call (.Name a p1) [] [] p2) p3] [.ExceptHandler (some (.Name x np)) (some nm) (b₀ :: suite) pos'] [] [] p4) (fun D σ H => tb (wAs Z.K c i ts W D) D σ H) := by
    refine L2N.ps_try_as (ts := ts) h.tops.1 h.tops.2 h.cc.nd (by rw [h.hN]; exact ix) (by show Z.env.scope.names.lookup nm = _; rw [h.hsc]; exact ln) hc h.cc.tk (fun W' pn xe tk po => ?_) (fun a oe cls d pn hz hd => ⟨fun pins s σ H D I hh => ?_⟩)
    · refine pss_one ⟨fun pins s σ H D I hh => ?_⟩
      obtain ⟨W1, hW, hh⟩ := hh
      exact (ps_expr (hcall W1 pn xe (tk.imp hW)) hs).run pins s σ H D I hh
    · obtain ⟨q, v, hl, rfl, rfl, ⟨σ0, rfl⟩, hq⟩ := hh
      have hi : i < σ0.length := by
        have z := I.len
        rw [List.length_set] at z
        rw [z]
        exact (List.getElem?_eq_some_iff.mp (show Z.N[i]? = some nm by rw [h.hN]; exact ix)).1
      obtain ⟨vs, hv⟩ := hd
      obtain ⟨t, a1, a2⟩ := hsu q v hl a oe pn ⟨List.mem_cons_self, hz.1, hz.2.1, ⟨vs, hv, hz.2.2 vs hv⟩, rfl⟩
      exact a1.run pins s _ H D I (a2 _ H D I.len (by rw [List.getElem?_set_self hi]) hq)
  refine ⟨fun pins s σ H D I hh => (pss_cons st (pss_one (ps_ret pe_str))).run pins s σ H D I ⟨_, fun c1 d1 σ1 H1 hw => ?_, hh⟩⟩
  obtain ⟨q, v, hl, rfl, rfl, hq⟩ := hw
  exact ⟨true, by rw [hK]; exact hm _ _ hl, fun _ a ha => ⟨q, v, hl, rfl, rfl, ⟨σ1, rfl⟩, fun H2 ex => hq H2 ex⟩, fun z => by cases z⟩
/-- what x(lambda: e) tells: the word of e's error, or '' -/
def fLamW (m : Nat) (x q : Str) (cs : List (Str × Str)) (fb : FE) : FE := fun n E S => match S[m]? with
  | some (.tbl x' q') => if x' = x ∧ q' = q then (match fb n E S with
    | .ok _ S' => .ok (.str "") S'
    | .exc y S' => (match wordOf cs y with
      | some v => .ok (.str v) S'
      | none => .stk)
    | .stk => .stk) else .stk
  | _ => .stk
end DL
namespace DL
open PySem PySem.Spec PyProof.Rows L2 HZ
/-- the module's def Fx catches: what it makes of a thing that it calls without arguments (tl: what that asks) -/
structure LamF (P : Program) (w : World) (K : PySem.W.Frag) (mg : Str → Option Value) (base : Heap) (k : Nat) (Fx : Str) (cs : List (Str × Str)) : Prop where
  gl : mg Fx = some (.ref (He.ga K Fx))
  kp : PySem.W.keepIn K (.ref (He.ga K Fx)) = true
  run : ∀ (A : Around) (outer : List PySem.Env) (s : Shared) (H : Hp) (u : Addr) (Q : VK) (tl : XK → VK → Prop), Room (k + 2) A → Env0 P w K mg base A outer s H → (∀ s1 : Shared, Un (frs outer) [] H H s.heap s1.heap → PySem.W.FnAt u s1.heap) →
    (∀ (A' : Around) (outer' : List PySem.Env) (s1 : Shared) (Q' : VK) (E' : XK), Room (k + 1) A' → Env0 P w K mg base A' outer' s1 H → Un (frs outer) [] H H s.heap s1.heap → s1.heap.NoLimit → tl E' Q' → codeAny (model P w) A' (.call (.ref u) ⟨[], []⟩) (CR (L2N.CX P w) outer' P w H s1 Q' E') s1) →
    tl (fun cls d H1 => ∃ q v, cs.lookup q = some v ∧ cls = .ref (He.ga K q) ∧ d = none ∧ ∀ H2, Ext H1 H2 → Q (.str v) H2) (fun _ H1 => Q (.str "") H1) →
    codeAny (model P w) A (.call (.ref (He.ga K Fx)) ⟨[.ref u], []⟩) (CR (L2N.CX P w) outer P w H s Q (fun _ _ _ => False)) s
theorem lamF_of {P : Program} {w : World} {K : PySem.W.Frag} {mg : Str → Option Value} {base : Heap} {k : Nat} {Fx qual a x nm : Str} {pg : Arguments} {sg : Scope} {fd : FuncData} {N : List Str} {i : Nat} {c : Value} {suite : List Stmt} {b₀ : Stmt} {p1 p2 p3 p4 p5 p6 np pos' : Pos} {j : Nat} {cs : List (Str × Str)}
    (gl : mg Fx = some (.ref (He.ga K Fx))) (F : FunD K Fx qual pg [.Try [.Expr (.Call (.Name a p1) [] [] p2) p3] [.ExceptHandler (some (.Name x np)) (some nm) (b₀ :: suite) pos'] [] [] p4, .Return (some (.Constant (.str "") j p5)) p6] sg [] [] (He.ga K Fx) fd)
    (Sg : FnScope N [a] sg) (hb : Binds K fd [a] []) (h0 : N[0]? = some a) (ha : (a == ("__debug__" : Str)) = false) (ha2 : (a == ("__classdict__" : Str)) = false) (hva : Vis sg a) (ix : N[i]? = some nm) (ln : sg.names.lookup nm = some .local)
    (hc : ∀ Z : Cx, ∀ W, Bd Z W P w K mg base (k + 1) N sg → Names Z x c) (hm : ∀ q v, cs.lookup q = some v → PySem.W.exmOne K (.ref (He.ga K q)) c = some true)
    (hsu : ∀ (Z : Cx) W, Bd Z W P w K mg base (k + 1) N sg → ∀ q v, cs.lookup q = some v → ∀ a oe pn, Hand (Z.suite a ((a, oe) :: pn)) a oe (He.ga K q) → SuW (Z.suite a ((a, oe) :: pn)) i a (b₀ :: suite) v)
    (hs : ∀ env : PySem.Env, swapsWith (.Call (.Name a p1) [] [] p2) none p3.line env = pure false) (hst : ∀ f : Addr, (L2.start N [V.ref f])[0]? = some (some (V.ref f))) :
    LamF P w K mg base k Fx cs := by
  refine ⟨gl, F.kp, fun A outer s H u Q tl hr e0 hfn hcb hq => ?_⟩
  obtain ⟨oc, od, dV, kV, doc, pm, an, cdv, ct, osl, rfl, lk, hcd, _, _⟩ := F.ex
  refine LamX.run_ofS (CX := L2N.CX P w) (N := N) (ps := [a]) (us := [.ref u]) (vs := [.ref u]) lk hcd Sg hr e0 ?_ (.cons rfl .nil) rfl fun hr' => ?_
  · have := hb s [.ref u] (e0.mod.kin.keeps fun b o e => (e0.bs b o e).1) (by rfl)
    exact this
  · have hB : Bd (cxOf (L2N.CX P w) P w K mg base N qual sg (He.ga K Fx) cdv A outer s H (fun _ _ _ => False)) (fun _ _ _ _ => False) P w K mg base (k + 1) N sg :=
      ⟨⟨L2N.takes_of rfl rfl rfl rfl, passes_of rfl, rfl, Sg.kind, Sg.nd⟩, ⟨rfl, rfl, rfl, rfl, rfl, hr'⟩, rfl, rfl, fun _ => rfl, rfl, rfl⟩
    refine ⟨_, try_lam (tc := fun W' σZ HZ Q' => σZ[0]? = some (some (.ref u)) ∧ HZ = H ∧ tl (fun cls d H1 => W' cls d σZ H1) Q') hB ix ln (hc _ _ hB) hm (hsu _ _ hB) (hs _) (fun W' pn xe tk => ?_), ⟨hst u, rfl, hq⟩⟩
    refine ⟨fun pins sZ σZ HZ Q' IZ hh => ?_⟩
    obtain ⟨h1, rfl, h3⟩ := hh
    refine wpAny_Call_Name_kw (thn ((pe_var (pos := p1) (i := 0) h0 hva ha ha2).run pins sZ σZ HZ (fun v H1 => v = .ref u ∧ H1 = HZ) IZ ⟨.ref u, h1, rfl, rfl⟩) fun v s1 ⟨v', H1, I1, r1, q1⟩ => ?_)
    obtain ⟨rfl, rfl⟩ := q1
    cases r1
    have un : Un (frs outer) [] _ _ s.heap s1.heap := I1.base
    refine PySem.W.callWith_F0 (hfn s1 un) ?_
    have rc := hcb _ _ s1 Q' (fun cls d H1 => W' cls d σZ H1) hr' I1.env0 un I1.nolimit h3
    refine wpAny_call (codeAny_mono rc fun r s' hq => ?_)
    cases r with
    | error e => exact L2N.passAt tk σZ pins _ s1 e s' I1 hq
    | ok fl =>
      cases fl with
      | ret u => exact I1.after hq
      | next => exact False.elim hq
      | brk => exact False.elim hq
      | cont => exact False.elim hq
end DL
namespace DL
open PySem PySem.Spec PyProof.Rows L2 HZ
section
variable {X : Cx} {B : Gr} {W : WX} {P : Program} {w : World} {K : PySem.W.Frag} {mg : Str → Option Value} {base : Heap} {k m : Nat} {Fx x : Str} {cs : List (Str × Str)} {params : Arguments} {body : Expr} {scope : Scope} {p lpos pos : Pos} {ps : List Str} {dv : List Int} {fb : FE}
/-- Fx(lambda: body) -/
theorem q_lamW (h : Wd X P w K mg base (k + 2)) (F : LamF P w K mg base k Fx cs) (g : Gl X Fx) (hdb : nmB Fx = true) (M : MkOk X x)
    (L : LmS X.N X.env.scope scope ps) (hd : DfOk X params dv) (hb : ∀ us : List Value, us.length = dv.length → LamBinds (X.env.qual ++ "<lambda>") params body scope ps us) 
    (hq : ∀ (A : Around) (outer : List PySem.Env) (s : Shared) (H : Hp) (E : XK) (f c' : Addr), Room k (A.deeper (LamX.lamEnv X scope s.heap.objs.size f c')) → QE (lamX X A outer s H E scope f c') B (fun cls d _ H => E cls d H) body fb) :
    QE X B W (.Call (.Name Fx p) [.Lambda params body scope lpos] [] pos) (fLamW m x (X.env.qual ++ "<lambda>") cs fb) := by
  obtain ⟨h1, h2, h3, h4, h5, hr⟩ := h
  subst h1 h2 h3 h4 h5
  refine ⟨fun σ H Q => ∃ n E S Hf ρ, Rel X.K B E S σ H Hf ρ ∧ PostE X.K W σ H Hf ρ Q (fLamW m x (X.env.qual ++ "<lambda>") cs fb n E S), ⟨fun pins s σ H Q I hh => ?_⟩, fun n E S σ H Hf ρ Q r q => ⟨n, E, S, Hf, ρ, r, q⟩⟩
  obtain ⟨n, E, S, Hf, ρ, r, q⟩ := hh
  unfold fLamW at q
  split at q
  · rename_i x' q' hS
    split at q
    · rename_i hxq
      obtain ⟨rfl, rfl⟩ := hxq
      have hml : m < ρ.length := by rw [r.hr.len]; exact (List.getElem?_eq_some_iff.mp hS).1
      have hn0 : ρ[m]? = some ρ[m] := List.getElem?_eq_getElem hml
      have ea := (r.hr.cell m _ _ hn0 hS).1
      have hn : ρ[m]? = some (He.tabOf X.K (He.codeOf X.K (x', none))) := by rw [hn0, ea]
      refine wpAny_Call_Name_kw (ld_glob I g F.gl ?_ (nm_db hdb))
      refine PySem.W.callWith_K (h₀ := X.base) I.ok.mod.kin F.kp ?_ (by rfl) (by rfl)
      show wpAny _ _ (spliced ((false, eval (.Lambda params body scope lpos) X.env) :: backTo pos (starEach [] X.env))) _ _ s
      refine Calls.spliced_cons (lam_ev I r.hr M hn hS (L.has I.ok) hd fun f c' H1 Hf1 s' us hus I1 hr1 t1 at_ hco => ?_)
      refine Calls.spliced_nil ⟨I1.kIn, ?_⟩
      have r1 := r.step hr1 t1
      have rc : codeAny (model X.prog X.w) X.A (.call (.ref (He.ga X.K Fx)) ⟨[.ref f], []⟩) (CR (L2N.CX X.prog X.w) X.stack X.prog X.w H1 s' Q (fun _ _ _ => False)) s' := by
        refine F.run X.A X.stack s' H1 f Q (fun E' Q' => canE X.K B (fun cls d _ H => E' cls d H) fb σ H1 Q') hr I1.env0 (fun s1 un => ?_) (fun A' outer' s1 Q' E' hr' e0 un lim ht => ?_) ⟨n, E, S, Hf1, ρ, r1, ?_⟩
        · obtain ⟨⟨pm, ctv, dV, ho, _⟩, hfn, hfr⟩ := at_
          exact ⟨_, _, _, _, un.keep f _ ho hfn hfr (fun z => nomatch (show f ∈ ([] : List Addr) from z))⟩
        · exact lam_call I1 L at_ un e0 lim (hr1.sub _ _ hco) (hb us hus) hr' (fun hr2 => (hq A' outer' s1 H1 E' f c' hr2).can) ht
        · cases eb : fb n E S with
          | stk => rw [eb] at q; exact q.elim
          | ok d S' =>
            rw [eb] at q
            exact fun v H' Hf' ρ' a b _ => q (.str "") H' Hf' ρ' a (t1.trans b) rfl
          | exc y S' =>
            simp only [eb] at q
            intro c od H' Hf' ρ' a b ed
            cases hl : wordOf cs y with
            | none => simp only [hl] at q; exact q.elim
            | some v =>
              simp only [hl] at q
              obtain ⟨ec, eo⟩ := ed
              unfold wordOf at hl
              cases hat : y.att with
              | some z => rw [hat] at hl; cases hl
              | none =>
                rw [hat] at hl eo
                exact ⟨y.cls, v, hl, ec, eo, fun H2 ex => q (.str v) H2 Hf' ρ' (a.ext ex) ((t1.trans b).ext ex) rfl⟩
      refine wpAny_call (codeAny_mono rc fun rr s2 hq2 => ?_)
      cases rr with
      | error e =>
        obtain ⟨_, _, _, _, _, _, _, _, _, _, _, _, z⟩ := (show L2N.CX X.prog X.w X.stack H1 s' (fun _ _ _ => False) e s2 from hq2)
        exact z.elim
      | ok fl =>
        cases fl with
        | ret u => exact I1.after hq2
        | next => exact False.elim hq2
        | brk => exact False.elim hq2
        | cont => exact False.elim hq2
    · exact q.elim
  · exact q.elim
end
end DL

end

section
set_option autoImplicit false
set_option autoImplicit false
/-! Defs that make lambdas; the end of a law with tables of code objects. -/
namespace DL
open PySem PySem.Spec PyProof.Rows L2 HZ
/-- what the head tells, with the tables of the defs tf -/
structure HdL (xb : PySem.W.Frag → List Bool) (tf : List Str) (fa : List He.Fa) (fn : List He.DefD) (K : PySem.W.Frag) (mg : Str → Option Value) (base : Heap) : Prop extends HdX xb fa fn K mg where
  tbs : ∀ x ∈ tf, LamX.TabB base mg (He.codeOf K (x, none)) (He.tabOf K (He.codeOf K (x, none)))
/-- the frame's code object and name -/
structure Mk0 (X : Cx) (K : PySem.W.Frag) (x q : Str) : Prop where
  code : X.env.code = .ref (He.codeOf K (x, none))
  qual : X.env.qual = q
theorem Mk0.ok {X : Cx} {K : PySem.W.Frag} {P : Program} {w : World} {mg : Str → Option Value} {base : Heap} {k : Nat} {x q : Str} (m : Mk0 X K x q) (h : Wd X P w K mg base k) (t : LamX.TabB base mg (He.codeOf K (x, none)) (He.tabOf K (He.codeOf K (x, none)))) : MkOk X x := by
  obtain ⟨h1, h2, h3, h4, h5, _⟩ := h
  subst h1 h2 h3 h4 h5
  exact ⟨t, m.code⟩
theorem Mk0.blk {X : Cx} {K : PySem.W.Frag} {x q : Str} (m : Mk0 X K x q) {s : Shared} {H : Hp} {sc : Scope} {cl : List (Str × Addr)} {C : Addr} {fp : List Addr} : Mk0 (blkX X s H sc cl C fp) K x q := ⟨m.code, m.qual⟩
section
variable {X : Cx} {A : Around} {outer : List PySem.Env} {s : Shared} {H : Hp} {E : XK} {scope : Scope} {f c' : Addr} {i : Nat} {x : Str} {P : Program} {w : World} {K : PySem.W.Frag} {mg : Str → Option Value} {base : Heap} {k j : Nat}
theorem vr_lam (hi : X.N[i]? = some x) (h : scope.names.lookup x = some .free) (hd : (x == ("__debug__" : Str)) = false) (hcd : (x == ("__classdict__" : Str)) = false) : Vr (lamX X A outer s H E scope f c') i x := ⟨hi, .inr (.inr h), hd, hcd⟩
theorem gl_lam (h : scope.names.lookup x = some .globalImplicit) : Gl (lamX X A outer s H E scope f c') x := h
theorem wd_lam (h : Wd X P w K mg base j) (r : Room k (A.deeper (LamX.lamEnv X scope s.heap.objs.size f c'))) : Wd (lamX X A outer s H E scope f c') P w K mg base k := ⟨h.hP, h.hw, h.hK, h.hmg, h.hb, r⟩
theorem tk_lam : L2N.Takes (lamX X A outer s H E scope f c') (fun cls d _ H => E cls d H) := L2N.takes_of rfl rfl rfl rfl
theorem lm_at {N : List Str} {sc : Scope} {ps : List Str} (hN : X.N = N) (hs : X.env.scope = sc) (h : lmSB N sc scope ps = true) : LmS X.N X.env.scope scope ps := by subst hN hs; exact lmS_by h
end
section
variable {P : Program} {w : World} {K : PySem.W.Frag} {mg : Str → Option Value} {base : Heap}
theorem fnOkL_of {x qual : Str} {params : Arguments} {body : List Stmt} {scope : Scope} {fd : FuncData} {N ps : List Str} {k np : Nat} {m : MF} {fb : FS}
    (F : FunD K x qual params body scope [] [] (He.ga K x) fd) (S : FnScope N ps scope) (hp : ps.length = np)
    (der : ∀ (X : Cx) (B : Gr) (W : WX), Bd X W P w K mg base k N scope → Mk0 X K x (qual ++ ".<locals>.") → QSs X B W body fb)
    (impl : ∀ ds S, ds.length = np → m ds S ≠ .stk → ∃ n, bodyR (fb n (startE N ds) S) = m ds S) : FnOk P w K mg base (L2N.CX P w) (k + 1) (He.ga K x) fd ps (spD K np m) := by
  subst hp
  obtain ⟨oc, od, dV, kV, doc, pm, an, cdv, ct, osl, rfl, lk, hcd, _, _⟩ := F.ex
  obtain ⟨c, hc⟩ := He.codeIn_ref hcd
  have ecode : He.codeOf K (x, none) = c := He.codeOf_eq (p := (x, none)) lk hc
  refine fn_of lk hcd S (fun vs H Q E h => ?_) fun A outer s H vs Q E hr h => ?_
  · obtain ⟨ds, St, Hf, ρ, h1, h2, h3, h4⟩ := h
    rw [← h3.length, h1]
  · obtain ⟨ds, St, Hf, ρ, h1, h2, h3, h4⟩ := h
    have d := der (cxOf (L2N.CX P w) P w K mg base N qual scope (He.ga K x) cdv A outer s H E) ⟨H, Hf, ρ⟩ (fun c d _ H => E c d H)
      ⟨⟨L2N.takes_of rfl rfl rfl rfl, passes_of rfl, rfl, S.kind, S.nd⟩, ⟨rfl, rfl, rfl, rfl, rfl, hr⟩, rfl, rfl, fun _ => rfl, rfl, rfl⟩ ⟨by rw [ecode, ← hc]; rfl, rfl⟩
    obtain ⟨t, a, b⟩ := d
    refine ⟨t, a, ?_⟩
    have hm : m ds St ≠ .stk := fun z => by rw [z] at h4; exact h4
    obtain ⟨n, e⟩ := impl ds St h1 hm
    refine b n (startE N ds) St (L2.start N vs) H Hf ρ _ (start_rel h2 h3) ?_
    rw [← e] at h4
    cases eb : fb n (startE N ds) St with
    | nx E' S' => rw [eb] at h4; exact fun σ' H' Hf' ρ' r _ _ => h4 .non H' Hf' ρ' r.hr r.tr rfl
    | rt d S' => rw [eb] at h4; exact fun v H' Hf' ρ' a b c => h4 v H' Hf' ρ' a b c
    | bk E' S' => rw [eb] at h4; exact h4.elim
    | ct E' S' => rw [eb] at h4; exact h4.elim
    | ex y E' S' => rw [eb] at h4; exact fun c od σ' H' Hf' ρ' r _ _ z => h4 c od H' Hf' ρ' r.hr r.tr z
    | stk => rw [eb] at h4; exact h4.elim
theorem Hd.calleeL {fa : List He.Fa} {fn : List He.DefD} {x : Str} {params : Arguments} {body : List Stmt} {scope : Scope} {N ps : List Str} {k np : Nat} {m : MF} {fb : FS} {qual : Str} (T : Hd fa fn K mg) (i j : Nat) (h : fa[i]? = some (.glo x))
    (hd : fn[j]? = some ⟨(x, none), x, qual, params, body, scope, [], []⟩) (S : FnScope N ps scope) (hp : ps.length = np)
    (hb : ∀ (kV doc pm : Value) (an : Option Addr) (cdv ct : Value) (us : List Value), us.length = ps.length → bindArgs (PySem.W.fnOf x qual params body scope .none kV doc pm an cdv ct) ⟨us, []⟩ = pure (ps.zip us))
    (der : ∀ (X : Cx) (B : Gr) (W : WX), Bd X W P w K mg base k N scope → Mk0 X K x (qual ++ ".<locals>.") → QSs X B W body fb)
    (impl : ∀ ds S, ds.length = np → m ds S ≠ .stk → ∃ n, bodyR (fb n (startE N ds) S) = m ds S) : CalleeK P w K mg base x (k + 1) np m := by
  obtain ⟨fd, F⟩ := T.c.def_ j hd
  exact ⟨_, T.glo i h, fd, ps, hp, fnOkL_of F S hp der impl, F.kp, FunD.bindsN F hb⟩
end
end DL
namespace DL
open PySem PySem.Spec PyProof.Rows L2 HZ
def tabA (K : PySem.W.Frag) (x : Str) : Addr := He.tabOf K (He.codeOf K (x, none))
def tblS (tf : List Str) : Store := tf.map fun x => Cell.tbl x (x ++ ".<locals>." ++ "<lambda>")
theorem nodup_at {α : Type} {l : List α} (h : l.Nodup) {i j : Nat} {a : α} (hi : l[i]? = some a) (hj : l[j]? = some a) : i = j := by
  exact (List.getElem?_inj (List.getElem?_eq_some_iff.mp hi).1 h).mp (hi.trans hj.symm)
theorem start_hr {K : PySem.W.Frag} {tf : List Str} {H : Hp} (hT : ∀ x ∈ tf, H (tabA K x) = some (.tbl #[])) (nd : (tf.map (tabA K)).Nodup) {a : Addr} {xs : List V} (hS : SqL K H a xs) :
    ∃ Hf, HR K H Hf (tf.map (tabA K)) (tblS tf) ∧ SqL K Hf a xs := by
  have inT : ∀ b, b ∈ tf.map (tabA K) → H b = some (.tbl #[]) := fun b hb => by
    obtain ⟨x, hx, rfl⟩ := List.mem_map.mp hb
    exact hT x hx
  refine ⟨fun b => if b ∈ tf.map (tabA K) then none else H b, ⟨fun b u e => ?_, by simp [tblS], fun i j a e1 e2 => nodup_at nd e1 e2, fun n b e => if_pos (List.mem_of_getElem? e), fun n b c e1 e2 => ?_⟩, ?_⟩
  · by_cases hb : b ∈ tf.map (tabA K)
    · rw [show (if b ∈ tf.map (tabA K) then none else H b) = none from if_pos hb] at e; cases e
    · rw [show (if b ∈ tf.map (tabA K) then none else H b) = H b from if_neg hb] at e; exact e
  · rw [List.getElem?_map] at e1
    unfold tblS at e2
    rw [List.getElem?_map] at e2
    cases hx : tf[n]? with
    | none => rw [hx] at e1; cases e1
    | some x =>
      rw [hx] at e1 e2
      cases e1
      cases e2
      exact ⟨rfl, #[], hT x (List.mem_of_getElem? hx), True.intro, fun pos cv hc => by
        have z : codeAmong pos [] = some cv := hc
        simp [codeAmong] at z⟩
  · rcases hS with hS | hS
    · have na : a ∉ tf.map (tabA K) := fun z => by
        have q := inT a z
        rcases hS with e | ⟨ob, e⟩ <;> rw [q] at e <;> cases e
      rcases hS with e | ⟨ob, e⟩
      · exact .inl (.inl ((show (if a ∈ tf.map (tabA K) then none else H a) = H a from if_neg na).trans e))
      · exact .inl (.inr ⟨ob, (show (if a ∈ tf.map (tabA K) then none else H a) = H a from if_neg na).trans e⟩)
    · exact .inr hS
theorem law_endT {l : PySem.W.OpenLaw} {w : World} {K : PySem.W.Frag} {mg : Str → Option Value} {h : Heap} {fa : Addr} {fas : List He.Fa} {fns : List He.DefD} {params : Arguments} {body : List Stmt} {scope : Scope} {nm qual : Str} {k : Nat} {m : MF} {N : List Str} {fb : FS} {xb : PySem.W.Frag → List Bool} {tf : List Str}
    (T : HdX xb fas fns K mg) (KX : K.In h) (hmg : mg ("law" : Str) = some (.ref fa)) (i j : Nat) (hg : fas[i]? = some (.glo "law")) (hd : fns[j]? = some ⟨(("law" : Str), none), nm, qual, params, body, scope, [], []⟩) (S : FnScope N ["script"] scope)
    (hb : ∀ (kV doc pm : Value) (an : Option Addr) (cdv ct : Value) (us : List Value), us.length = (["script"] : List Str).length → bindArgs (PySem.W.fnOf nm qual params body scope .none kV doc pm an cdv ct) ⟨us, []⟩ = pure ((["script"] : List Str).zip us))
    (hcd : ∀ x ∈ tf, PySem.W.codeHdIn K (He.codeOf K (x, none)) (tabA K x) = true) (hout : ∀ x ∈ tf, K.lookup (tabA K x) = none) (hem : ∀ x ∈ tf, h.get? (tabA K x) = some { cls := .none, data := .fields #[] }) (nd : (tf.map (tabA K)).Nodup)
    (der : ∀ (base : Heap), HdL xb tf fas fns K mg base → ∀ (X : Cx) (B : Gr) (W : WX), Bd X W l.prog w K mg base k N scope → QSs X B W body fb) (impl : ∀ ds S, ds.length = 1 → m ds S ≠ .stk → ∃ n, bodyR (fb n (startE N ds) S) = m ds S)
    (tr : ∀ ns : List Int, ns.length ≤ 63 → ∃ S, m [.scr ns] (tblS tf) = .ok (.bl true) S) : LamX.LawAtS l w K CX0 (k + 1) 63 "script" mg fa h := by
  obtain ⟨fd, F⟩ := T.c.def_ j hd
  have e := hmg.symm.trans (T.glo i hg)
  cases e
  refine ⟨fd, tf.map fun x => (He.codeOf K (x, none), tabA K x), fun vs H Q _ => spD K 1 m vs H Q fun _ _ _ => False, fun p hp => ?_, fun p hp => ?_, fun p hp => ?_, fun s v => FunD.bindsA (ps := ["script"]) F hb s [v] rfl, ?_, fun base _ _ tb => ?_⟩
  · obtain ⟨x, hx, rfl⟩ := List.mem_map.mp hp; exact hem x hx
  · obtain ⟨x, hx, rfl⟩ := List.mem_map.mp hp; exact hout x hx
  · obtain ⟨x, hx, rfl⟩ := List.mem_map.mp hp; exact PySem.W.codeHd_of_K KX (hcd x hx)
  · intro H a ns hl _ hH hS
    obtain ⟨Hf, r1, r2⟩ := start_hr (fun x hx => hH _ (List.mem_map.mpr ⟨x, hx, rfl⟩)) nd hS
    obtain ⟨S', e⟩ := tr ns hl
    refine ⟨[.scr ns], tblS tf, Hf, tf.map (tabA K), rfl, r1, ⟨_, [], rfl, ⟨a, rfl, r2⟩, rfl⟩, ?_⟩
    rw [e]
    intro v H' Hf' ρ' _ _ d
    exact d
  · exact FnOk.noX (fnOk_of (f := He.ga K "law") F S rfl (der base ⟨T, fun x hx => tb _ (List.mem_map.mpr ⟨x, hx, rfl⟩)⟩) impl)
end DL
namespace DL
open PySem PySem.Spec PyProof.Rows L2 HZ
theorem lamBinds0 {qual : Str} {params : Arguments} {body : Expr} {scope : Scope} (h : ∀ (cl : List (Str × Addr)) (pm cv ctv : Value), bindArgs (lamFn qual params body scope cl pm cv ctv .none) ⟨[], []⟩ = pure []) :
    ∀ us : List Value, us.length = ([] : List Int).length → LamBinds qual params body scope [] us
  | [], _ => fun cl pm cv ctv dV s hd => by
    rw [if_pos rfl] at hd
    subst hd
    exact BindsTo.of_eq (h cl pm cv ctv)
theorem lamBinds1 {qual p : Str} {z : Int} {params : Arguments} {body : Expr} {scope : Scope}
    (h : ∀ (cl : List (Str × Addr)) (pm cv ctv : Value) (T : Addr) (u : Value), ∃ k, bindArgs (lamFn qual params body scope cl pm cv ctv (.ref T)) ⟨[], []⟩ = seqItems? (.ref T) >>= k ∧ k (some #[u]) = pure [(p, u)]) :
    ∀ us : List Value, us.length = ([z] : List Int).length → LamBinds qual params body scope [p] us
  | [u], _ => fun cl pm cv ctv dV s hd => by
    rw [if_neg (by simp)] at hd
    obtain ⟨T, o, n, rfl, h2, h3⟩ := hd
    obtain ⟨k, k1, k2⟩ := h cl pm cv ctv T u
    exact BindsTo.of_defaults rfl h2 h3 k1 k2
theorem q_lamC {X : Cx} {B : Gr} {W : WX} {P : Program} {w : World} {K : PySem.W.Frag} {mg : Str → Option Value} {base : Heap} {k m : Nat} {Fx x q q0 : Str} {cs : List (Str × Str)} {params : Arguments} {body : Expr} {scope : Scope} {p lpos pos : Pos} {ps : List Str} {dv : List Int} {fb : FE}
    (h : Wd X P w K mg base (k + 2)) (F : LamF P w K mg base k Fx cs) (g : Gl X Fx) (hdb : nmB Fx = true) (M : Mk0 X K x q0) (tb : LamX.TabB base mg (He.codeOf K (x, none)) (He.tabOf K (He.codeOf K (x, none)))) (e : q0 ++ "<lambda>" = q)
    (L : LmS X.N X.env.scope scope ps) (hd : DfOk X params dv) (hb : ∀ us : List Value, us.length = dv.length → LamBinds q params body scope ps us)
    (hq : ∀ (A : Around) (outer : List PySem.Env) (s : Shared) (H : Hp) (E : XK) (f c' : Addr), Room k (A.deeper (LamX.lamEnv X scope s.heap.objs.size f c')) → QE (lamX X A outer s H E scope f c') B (fun cls d _ H => E cls d H) body fb) :
    QE X B W (.Call (.Name Fx p) [.Lambda params body scope lpos] [] pos) (fLamW m x q cs fb) := by
  have e2 : X.env.qual ++ "<lambda>" = q := by rw [M.qual]; exact e
  subst e2
  exact q_lamW h F g hdb (M.ok h tb) L hd hb hq
end DL

end

section
set_option autoImplicit false
set_option autoImplicit false
namespace DL
open PySem PySem.Spec PyProof.Rows L2

/-- as rfl, but simp shall not see it -/
theorem nrf {α : Sort _} {a b : α} (h : a = b := by rfl) : a = b := h
/-- what comes behind a statement; not looked into before its turn -/
def thenF (r : SRes) (s : FS) (n : Nat) : SRes := match r with
  | .nx E S => s n E S
  | r => r
@[simp] theorem then_nx {E : Env} {S : Store} {s : FS} {n : Nat} : thenF (.nx E S) s n = s n E S := nrf rfl
@[simp] theorem then_rt {d : D} {S : Store} {s : FS} {n : Nat} : thenF (.rt d S) s n = .rt d S := nrf rfl
@[simp] theorem then_ex {x : Exc} {E : Env} {S : Store} {s : FS} {n : Nat} : thenF (.ex x E S) s n = .ex x E S := nrf rfl
@[simp] theorem then_bk {E : Env} {S : Store} {s : FS} {n : Nat} : thenF (.bk E S) s n = .bk E S := nrf rfl
@[simp] theorem then_ct {E : Env} {S : Store} {s : FS} {n : Nat} : thenF (.ct E S) s n = .ct E S := nrf rfl
@[simp] theorem then_stk {s : FS} {n : Nat} : thenF .stk s n = .stk := nrf rfl
def ifF (r : Res Bool) (s t : FS) (n : Nat) (E : Env) : SRes := match r with
  | .ok true S1 => s n E S1
  | .ok false S1 => t n E S1
  | .exc x S1 => .ex x E S1
  | .stk => .stk
@[simp] theorem if_tt {E : Env} {S : Store} {s t : FS} {n : Nat} : ifF (.ok true S) s t n E = s n E S := nrf rfl
@[simp] theorem if_ff {E : Env} {S : Store} {s t : FS} {n : Nat} : ifF (.ok false S) s t n E = t n E S := nrf rfl
@[simp] theorem if_exc {x : Exc} {E : Env} {S : Store} {s t : FS} {n : Nat} : ifF (.exc x S) s t n E = .ex x E S := nrf rfl
def ifE {α : Type} (r : Res Bool) (f g : Nat → Env → Store → Res α) (n : Nat) (E : Env) : Res α := match r with
  | .ok true S1 => f n E S1
  | .ok false S1 => g n E S1
  | .exc x S1 => .exc x S1
  | .stk => .stk
@[simp] theorem ifE_tt {α : Type} {E : Env} {S : Store} {f g : Nat → Env → Store → Res α} {n : Nat} : ifE (.ok true S) f g n E = f n E S := nrf rfl
@[simp] theorem ifE_ff {α : Type} {E : Env} {S : Store} {f g : Nat → Env → Store → Res α} {n : Nat} : ifE (.ok false S) f g n E = g n E S := nrf rfl
@[simp] theorem ifE_exc {α : Type} {x : Exc} {E : Env} {S : Store} {f g : Nat → Env → Store → Res α} {n : Nat} : ifE (.exc x S) f g n E = .exc x S := nrf rfl
def asB (r : Res D) : Res Bool := match r with
  | .ok (.bl b) S => .ok b S
  | .exc x S => .exc x S
  | _ => .stk
@[simp] theorem asB_ok {b : Bool} {S : Store} : asB (.ok (.bl b) S) = .ok b S := nrf rfl
@[simp] theorem asB_exc {x : Exc} {S : Store} : asB (.exc x S) = .exc x S := nrf rfl
/-! ### how the pieces answer: for simp -/
section
variable {α β : Type} {n : Nat} {E : Env} {S : Store} {d e : D} {ds : List D} {f f1 f2 f3 : FE} {g : FA} {c c1 c2 : FT} {s s1 s2 : FS} {i j : Nat}
@[simp] theorem e_bind_ok (a : α) (S : Store) (k : α → Store → Res β) : Res.bind (.ok a S) k = k a S := nrf rfl
@[simp] theorem e_bind_exc (a : Exc) (S : Store) (k : α → Store → Res β) : Res.bind (.exc a S) k = .exc a S := nrf rfl
@[simp] theorem e_bind_stk (k : α → Store → Res β) : Res.bind .stk k = .stk := nrf rfl
@[simp] theorem e_bindN_ok (a : α) (S : Store) (k : α → Store → Res β) : Res.bindN (.ok a S) k = k a S := nrf rfl
@[simp] theorem e_C : fC d n E S = .ok d S := nrf rfl
theorem e_Var : fVar i n E S = (match E[i]? with | some (some (.fz d)) => .ok d S | _ => .stk) := rfl
theorem e_var_of (h : E[i]? = some (some (.fz d))) : fVar i n E S = .ok d S := by unfold fVar; rw [h]
@[simp] theorem e_Op {g : D → D → Option D} : fOp g f1 f2 n E S = (f1 n E S).bind fun a S1 => (f2 n E S1).bind fun b S2 => match g a b with | some d => .ok d S2 | none => .stk := nrf rfl
@[simp] theorem e_Un {g : D → Option D} : fUn g f n E S = (f n E S).bind fun a S1 => match g a with | some d => .ok d S1 | none => .stk := nrf rfl
@[simp] theorem e_CB {m : List D → Option D} : fCB m g n E S = (g n E S).bind fun a S1 => match m a with | some d => .ok d S1 | none => .stk := nrf rfl
@[simp] theorem e_Call {m : MF} : fCall m g n E S = (g n E S).bind fun a S1 => m a S1 := nrf rfl
@[simp] theorem e_Call0 {m : MF} : fCall0 m n E S = m [] S := nrf rfl
@[simp] theorem e_Nil : fNil n E S = .ok [] S := nrf rfl
@[simp] theorem e_Cons : fCons f g n E S = (f n E S).bind fun d S1 => (g n E S1).bind fun ds S2 => .ok (d :: ds) S2 := nrf rfl
@[simp] theorem e_Tup : fTup g n E S = (g n E S).bind fun ds S1 => if ds.length ≤ 1000 then .ok (.tup ds) S1 else .stk := nrf rfl
@[simp] theorem e_Lst : fLst g n E S = (g n E S).bind fun ds S1 => if ds.length ≤ 1000 then .ok (.lst ds) S1 else .stk := nrf rfl
@[simp] theorem e_And : fAnd f1 f2 n E S = ifE (asB (f1 n E S)) f2 (fC (.bl false)) n E := by
  unfold fAnd ifE Res.bind asB fC
  cases f1 n E S with
  | ok d S1 => cases d <;> first | rfl | (rename_i b; cases b <;> rfl)
  | _ => rfl
@[simp] theorem e_Or : fOr f1 f2 n E S = ifE (asB (f1 n E S)) (fC (.bl true)) f2 n E := by
  unfold fOr ifE Res.bind asB fC
  cases f1 n E S with
  | ok d S1 => cases d <;> first | rfl | (rename_i b; cases b <;> rfl)
  | _ => rfl
@[simp] theorem e_Not : fNot f n E S = (f n E S).bind fun d S1 => match d with
  | .bl b => .ok (.bl (!b)) S1
  | _ => .stk := nrf rfl
@[simp] theorem e_Bool : fBool f n E S = asB (f n E S) := by
  unfold fBool Res.bind asB
  cases f n E S with
  | ok d S1 => cases d <;> rfl
  | _ => rfl
@[simp] theorem e_Tru : fTru f n E S = (f n E S).bind fun d S1 => match truD d with
  | some b => .ok b S1
  | none => .stk := nrf rfl
@[simp] theorem e_NotT : fNotT c n E S = (c n E S).bind fun b S1 => .ok (!b) S1 := nrf rfl
@[simp] theorem e_AndT : fAndT c1 c2 n E S = ifE (c1 n E S) c2 (fun _ _ S => .ok false S) n E := by
  unfold fAndT ifE Res.bind
  cases c1 n E S with
  | ok b S1 => cases b <;> rfl
  | _ => rfl
@[simp] theorem e_OrT : fOrT c1 c2 n E S = ifE (c1 n E S) (fun _ _ S => .ok true S) c2 n E := by
  unfold fOrT ifE Res.bind
  cases c1 n E S with
  | ok b S1 => cases b <;> rfl
  | _ => rfl
@[simp] theorem e_If : fIf c f1 f2 n E S = ifE (c n E S) f1 f2 n E := by
  unfold fIf ifE Res.bind
  cases c n E S with
  | ok b S1 => cases b <;> rfl
  | _ => rfl
@[simp] theorem e_Chain {g g' : D → D → Option D} : fChain g g' f1 f2 f3 n E S = (f1 n E S).bind fun a S1 => (f2 n E S1).bind fun b S2 => match g a b with
  | some (.bl true) => (f3 n E S2).bind fun c S3 => match g' b c with
    | some d => .ok d S3
    | none => .stk
  | some (.bl false) => .ok (.bl false) S2
  | _ => .stk := nrf rfl
@[simp] theorem e_Yes : fYes n E S = .ok true S := nrf rfl
@[simp] theorem e_Skip : fSkip n E S = .nx E S := nrf rfl
@[simp] theorem e_Seq : fSeq s1 s2 n E S = thenF (s1 n E S) s2 n := nrf rfl
@[simp] theorem e_Frz : fFrz i s n E S = s n (frz E i) S := nrf rfl
@[simp] theorem e_Set : fSet i f n E S = (match f n E S with
  | .ok d S1 => .nx (E.set i (some (.fz d))) S1
  | .exc x S1 => .ex x E S1
  | .stk => .stk) := nrf rfl
@[simp] theorem e_SetO : fSetO i f n E S = (match f n E S with
  | .ok d S1 => .nx (E.set i (some (.own d))) S1
  | .exc x S1 => .ex x E S1
  | .stk => .stk) := nrf rfl
@[simp] theorem e_Ret : fRet f n E S = (match f n E S with
  | .ok d S1 => .rt d S1
  | .exc x S1 => .ex x E S1
  | .stk => .stk) := nrf rfl
@[simp] theorem e_Exp : fExp f n E S = (match f n E S with
  | .ok _ S1 => .nx E S1
  | .exc x S1 => .ex x E S1
  | .stk => .stk) := nrf rfl
@[simp] theorem e_IfS : fIfS c s1 s2 n E S = ifF (c n E S) s1 s2 n E := nrf rfl
@[simp] theorem e_Raise {C : Str} : fRaise C n E S = .ex ⟨C, none⟩ E S := nrf rfl
@[simp] theorem e_Brk : fBrk n E S = .bk E S := nrf rfl
@[simp] theorem e_Cnt : fCnt n E S = .ct E S := nrf rfl
@[simp] theorem e_gN : gN i d E = some (E.set i (some (.fz d))) := nrf rfl
@[simp] theorem e_gT_t {gs : Tgts} {l : List D} : gT gs (.tup l) E = gs l E := nrf rfl
@[simp] theorem e_gNils : gNils [] E = some E := nrf rfl
@[simp] theorem e_gConss {t : Tgt} {gs : Tgts} {l : List D} : gConss t gs (d :: l) E = (t d E).bind (gs l) := nrf rfl
@[simp] theorem e_Asg {t : Tgt} : fAsg t f n E S = (match f n E S with
  | .ok d S1 => match t d E with
    | some E' => .nx E' S1
    | none => .stk
  | .exc x S1 => .ex x E S1
  | .stk => .stk) := nrf rfl
@[simp] theorem e_For {t : Tgt} : fFor g t s n E S = (match g n E S with
  | .ok ds S1 => forL t (s n) ds E S1
  | .exc x S1 => .ex x E S1
  | .stk => .stk) := nrf rfl
@[simp] theorem e_forL_nil {t : Tgt} {b : Env → Store → SRes} : forL t b [] E S = .nx E S := nrf rfl
theorem e_forL_cons {t : Tgt} {b : Env → Store → SRes} {l : List D} : forL t b (d :: l) E S = (match t d E with
    | none => .stk
    | some E1 => match b E1 S with
      | .nx E2 S2 => forL t b l E2 S2
      | .ct E2 S2 => forL t b l E2 S2
      | .bk E2 S2 => .nx E2 S2
      | r => r) := rfl
@[simp] theorem e_While : fWhile c s n E S = whileL (c n) (s n) n E S := nrf rfl
@[simp] theorem e_Lift {h : List D → Option (List D)} : fLift h g n E S = (g n E S).bind fun ds S1 => match h ds with
  | some l => .ok l S1
  | none => .stk := nrf rfl
@[simp] theorem e_body_nx : bodyR (.nx E S) = .ok .non S := nrf rfl
@[simp] theorem e_body_rt : bodyR (.rt d S) = .ok d S := nrf rfl
@[simp] theorem e_body_ex {x : Exc} : bodyR (.ex x E S) = .exc x S := nrf rfl
@[simp] theorem e_body_stk : bodyR .stk = .stk := nrf rfl
@[simp] theorem e_body_bk : bodyR (.bk E S) = .stk := nrf rfl
@[simp] theorem e_body_ct : bodyR (.ct E S) = .stk := nrf rfl
theorem e_Par2 : fPar2 i j g n E S = (match g n E S with
  | .ok [a, b] S1 => .nx ((E.set i (some (.fz a))).set j (some (.fz b))) S1
  | .ok _ _ => .stk
  | .exc x S1 => .ex x E S1
  | .stk => .stk) := rfl
end

theorem e_Par3 {n : Nat} {E : Env} {S : Store} {g : FA} {i j k : Nat} : fPar3 i j k g n E S = (match g n E S with
  | .ok [a, b, c] S1 => .nx (((E.set i (some (.fz a))).set j (some (.fz b))).set k (some (.fz c))) S1
  | .ok _ _ => .stk
  | .exc x S1 => .ex x E S1
  | .stk => .stk) := rfl
@[simp] theorem e_par2 {n : Nat} {E : Env} {S : Store} {f1 f2 : FE} {i j : Nat} : fPar2 i j (fCons f1 (fCons f2 fNil)) n E S = (match f1 n E S with
  | .ok a S1 => match f2 n E S1 with
    | .ok b S2 => .nx ((E.set i (some (.fz a))).set j (some (.fz b))) S2
    | .exc x S1 => .ex x E S1
    | .stk => .stk
  | .exc x S1 => .ex x E S1
  | .stk => .stk) := by
  unfold fPar2 fCons fNil
  cases f1 n E S with
  | ok a S1 => cases h : f2 n E S1 <;> simp [h]
  | _ => rfl
@[simp] theorem e_par3 {n : Nat} {E : Env} {S : Store} {f1 f2 f3 : FE} {i j k : Nat} : fPar3 i j k (fCons f1 (fCons f2 (fCons f3 fNil))) n E S = (match f1 n E S with
  | .ok a S1 => match f2 n E S1 with
    | .ok b S2 => match f3 n E S2 with
      | .ok c S3 => .nx (((E.set i (some (.fz a))).set j (some (.fz b))).set k (some (.fz c))) S3
      | .exc x S1 => .ex x E S1
      | .stk => .stk
    | .exc x S1 => .ex x E S1
    | .stk => .stk
  | .exc x S1 => .ex x E S1
  | .stk => .stk) := by
  unfold fPar3 fCons fNil
  cases f1 n E S with
  | ok a S1 =>
    cases h : f2 n E S1 with
    | ok b S2 => cases h2 : f3 n E S2 <;> simp [h, h2]
    | _ => simp [h]
  | _ => rfl
section
variable {n : Nat} {E : Env} {S : Store} {d a b : D} {i j : Int} {l m : List D} {x y : Bool} {f : FE}
@[simp] theorem e_v0 {v : Nat} : fVar v n E S = (match E[v]? with | some (some (.fz d)) => .ok d S | _ => .stk) := nrf rfl
@[simp] theorem e_r0 {v : Nat} : fRd v n E S = (match E[v]? with | some (some (.fz d)) => .ok d S | some (some (.own d)) => .ok d S | _ => .stk) := nrf rfl
@[simp] theorem o_add : gAdd (.int i) (.int j) = some (.int (i + j)) := nrf rfl
@[simp] theorem o_sub : gSub (.int i) (.int j) = some (.int (i - j)) := nrf rfl
@[simp] theorem o_lt : gLt (.int i) (.int j) = some (.bl (decide (i < j))) := nrf rfl
@[simp] theorem o_le : gLe (.int i) (.int j) = some (.bl (decide (i ≤ j))) := nrf rfl
@[simp] theorem o_gt : gGt (.int i) (.int j) = some (.bl (decide (j < i))) := nrf rfl
@[simp] theorem o_ge : gGe (.int i) (.int j) = some (.bl (decide (j ≤ i))) := nrf rfl
@[simp] theorem o_eqi : gEq (.int i) (.int j) = some (.bl (decide (i = j))) := nrf rfl
@[simp] theorem o_eqb : gEq (.bl x) (.bl y) = some (.bl (decide (x = y))) := nrf rfl
@[simp] theorem o_nei : gNe (.int i) (.int j) = some (.bl (!decide (i = j))) := nrf rfl
@[simp] theorem o_neg : gNeg (.int i) = some (.int (-i)) := nrf rfl
theorem o_addL {l m : List D} (h : l.length + m.length ≤ sizeLine) : gAdd (.lst l) (.lst m) = some (.lst (l ++ m)) := by
  simp only [gAdd]; rw [if_pos h]
theorem o_addT {l m : List D} (h : l.length + m.length ≤ sizeLine) : gAdd (.tup l) (.tup m) = some (.tup (l ++ m)) := by
  simp only [gAdd]; rw [if_pos h]
theorem mulOk_l (h : i.natAbs < 2 ^ 64) : mulOk i j = true := by unfold mulOk; simp only [h, decide_true, Bool.true_or]
theorem mulOk_r (h : j.natAbs < 2 ^ 64) : mulOk i j = true := by unfold mulOk; simp only [h, decide_true, Bool.true_or, Bool.or_true]
theorem o_mul (h : mulOk i j = true) : gMul (.int i) (.int j) = some (.int (i * j)) := by
  show iOp mulOk (fun i j => .int (i * j)) (.int i) (.int j) = _
  unfold iOp; simp [h]
theorem o_mod (h : 0 < j) : gMod (.int i) (.int j) = some (.int (i % j)) := by
  show iOp _ _ (.int i) (.int j) = _
  unfold iOp; simp [h]
theorem o_div (h : 0 < j) (g : j.natAbs.log2 < 9000) : gDiv (.int i) (.int j) = some (.int (i / j)) := by
  show iOp _ _ (.int i) (.int j) = _
  unfold iOp; simp [h, g]
theorem o_pow (h : 0 ≤ j) (h2 : j ≤ 1000000) (g : i.natAbs < 2 ^ 64) : gPow (.int i) (.int j) = some (.int (i ^ j.toNat)) := by
  show iOp _ _ (.int i) (.int j) = _
  unfold iOp; simp only [h, h2, g, decide_true, Bool.and_self, if_pos]
/-- log2 of what is small -/
theorem log2_le {a k : Nat} (h : a < 2 ^ k) : a.log2 ≤ k := by
  by_cases h0 : a = 0
  · subst h0; simp
  · exact Nat.le_of_lt ((Nat.log2_lt h0).mpr h)
theorem mulOk_s {k r : Nat} (h : i.natAbs < 2 ^ k) (g : j.natAbs < 2 ^ r) (s : k + r < 1000000) : mulOk i j = true := by
  unfold mulOk
  have := log2_le h
  have := log2_le g
  have : i.natAbs.log2 + j.natAbs.log2 < 1000000 := by omega
  simp [this]
end
/-! ### loops -/
/-- a while without a break: what I says before each turn, m grows less -/
theorem while_rule {c : Env → Store → Res Bool} {b : Env → Store → SRes} {Q : Env → Store → Prop} (I : Nat → Env → Store → Prop)
    (h : ∀ m E S, I m E S → (∃ S', c E S = .ok false S' ∧ Q E S') ∨ ∃ S1 E2 S2 m', c E S = .ok true S1 ∧ b E S1 = .nx E2 S2 ∧ m' < m ∧ I m' E2 S2) :
    ∀ (m n : Nat) (E : Env) (S : Store), m < n → I m E S → ∃ E' S', whileL c b n E S = .nx E' S' ∧ Q E' S' := by
  intro m
  induction m using Nat.strongRecOn with
  | ind m ih =>
    intro n E S hn hI
    cases n with
    | zero => omega
    | succ n =>
      rcases h m E S hI with ⟨S', h1, h2⟩ | ⟨S1, E2, S2, m', h1, h2, h3, h4⟩
      · exact ⟨E, S', by simp only [whileL, h1], h2⟩
      · obtain ⟨E', S', h5, h6⟩ := ih m' h3 n E2 S2 (by omega) h4
        exact ⟨E', S', by simp only [whileL, h1, h2, h5], h6⟩
/-- a for without an end ahead of time -/
theorem for_rule {t : Tgt} {b : Env → Store → SRes} (I : List D → Env → Store → Prop)
    (h : ∀ d l E S, I (d :: l) E S → ∃ E1 E2 S2, t d E = some E1 ∧ (b E1 S = .nx E2 S2 ∨ b E1 S = .ct E2 S2) ∧ I l E2 S2) :
    ∀ (l : List D) (E : Env) (S : Store), I l E S → ∃ E' S', forL t b l E S = .nx E' S' ∧ I [] E' S'
  | [], E, S, hI => ⟨E, S, rfl, hI⟩
  | d :: l, E, S, hI => by
    obtain ⟨E1, E2, S2, h1, h2, h3⟩ := h d l E S hI
    obtain ⟨E', S', h4, h5⟩ := for_rule I h l E2 S2 h3
    refine ⟨E', S', ?_, h5⟩
    rcases h2 with h2 | h2 <;> simp only [forL, h1, h2, h4]
end DL

end

section
set_option autoImplicit false
set_option autoImplicit false
namespace DL
open PySem PySem.Spec PyProof.Rows L2
/-! ### plain arithmetic -/
theorem mulm {a b g : Int} : (a % g) * (b % g) % g = a * b % g := (Int.mul_emod a b g).symm
theorem mulml {a b g : Int} : (a % g) * b % g = a * b % g := by rw [Int.mul_emod, Int.emod_emod, ← Int.mul_emod]
theorem mulmr {a b g : Int} : a * (b % g) % g = a * b % g := by rw [Int.mul_emod, Int.emod_emod, ← Int.mul_emod]
theorem powm {a g : Int} : ∀ k : Nat, (a % g) ^ k % g = a ^ k % g
  | 0 => by rw [Int.pow_zero, Int.pow_zero]
  | k + 1 => by rw [Int.pow_succ, Int.pow_succ, Int.mul_emod, powm k, Int.emod_emod, ← Int.mul_emod]
theorem pow_two_mul (h : Int) (k : Nat) : h ^ (2 * k) = (h * h) ^ k := by rw [Int.pow_mul]; congr 1; rw [Int.pow_succ, Int.pow_succ, Int.pow_zero, Int.one_mul]
/-- one turn of the power by bits -/
theorem pow_turn {f h g : Int} {t : Nat} : (if (t : Int) % 2 = 1 then f * h % g else f) * (h * h % g) ^ (t / 2) % g = f * h ^ t % g := by
  rw [Int.mul_emod, powm, ← Int.mul_emod]
  by_cases e : (t : Int) % 2 = 1
  · rw [if_pos e, mulml, ← pow_two_mul, Int.mul_assoc, ← Int.pow_succ']
    have : 2 * (t / 2) + 1 = t := by omega
    rw [this]
  · rw [if_neg e, ← pow_two_mul]
    have : 2 * (t / 2) = t := by omega
    rw [this]
theorem nat_lt_of {a : Int} {k : Nat} (h0 : 0 ≤ a) (h : a < 2 ^ k) : a.natAbs < 2 ^ k := by
  have : (a.natAbs : Int) = a := by omega
  have e : ((2 ^ k : Nat) : Int) = (2 : Int) ^ k := by rw [Int.natCast_pow]; rfl
  omega
theorem emod_abs {a g : Int} {k : Nat} (hg : 0 < g) (h : g.natAbs < 2 ^ k) : (a % g).natAbs < 2 ^ k := by
  have := Int.emod_nonneg a (by omega : g ≠ 0)
  have := Int.emod_lt_of_pos a hg
  omega
/-- a number is an odd one times a power of two, in one way -/
theorem two_part : ∀ {p q : Nat} {a b : Int}, a % 2 = 1 → b % 2 = 1 → a * 2 ^ p = b * 2 ^ q → p = q ∧ a = b
  | 0, 0, a, b, _, _, e => ⟨rfl, by simpa using e⟩
  | 0, q + 1, a, b, ha, _, e => by
    exfalso
    rw [Int.pow_zero, Int.mul_one, Int.pow_succ, ← Int.mul_assoc] at e
    omega
  | p + 1, 0, a, b, _, hb, e => by
    exfalso
    rw [Int.pow_zero, Int.mul_one, Int.pow_succ, ← Int.mul_assoc] at e
    omega
  | p + 1, q + 1, a, b, ha, hb, e => by
    rw [Int.pow_succ, Int.pow_succ, ← Int.mul_assoc, ← Int.mul_assoc] at e
    obtain ⟨h1, h2⟩ := two_part ha hb (by omega : a * 2 ^ p = b * 2 ^ q)
    exact ⟨by rw [h1], h2⟩
theorem pow2_mono {a b : Nat} (h : a ≤ b) : (2 : Int) ^ a ≤ 2 ^ b := by
  have := Nat.pow_le_pow_right (n := 2) (by decide) h
  have e : ∀ k, ((2 ^ k : Nat) : Int) = (2 : Int) ^ k := fun k => by rw [Int.natCast_pow]; rfl
  rw [← e, ← e]; omega
theorem pow2_pos (a : Nat) : (0 : Int) < 2 ^ a := by
  have := pow2_mono (Nat.zero_le a); simp at this; omega
end DL

end

section
set_option autoImplicit false
set_option autoImplicit false
namespace DL
open PySem PySem.Spec PyProof.Rows L2
/-! ### walks by ints, comprehensions, first finds -/
def rngI (i c : Int) (n : Nat) : List Int := (List.range n).map fun k : Nat => i + (k : Int) * c
theorem rngC_eq {i c : Int} {n : Nat} : rngC i c n = (rngI i c n).map D.int := by
  unfold rngC rngI; rw [List.map_map]; rfl
theorem rngD_eq {i : Int} {n : Nat} : rngD i n = (rngI i 1 n).map D.int := by
  unfold rngD rngI; rw [List.map_map]
  apply List.map_congr_left
  intro x _
  simp
theorem mem_rngI {i c x : Int} {n : Nat} : x ∈ rngI i c n ↔ ∃ k : Nat, k < n ∧ x = i + (k : Int) * c := by
  unfold rngI
  simp only [List.mem_map, List.mem_range]
  exact ⟨fun ⟨k, h, e⟩ => ⟨k, h, e.symm⟩, fun ⟨k, h, e⟩ => ⟨k, h, e.symm⟩⟩
theorem rngI_length {i c : Int} {n : Nat} : (rngI i c n).length = n := by simp [rngI]
theorem rngI_asc {i c : Int} {n : Nat} (hc : 0 < c) : (rngI i c n).Pairwise (· < ·) := by
  unfold rngI
  rw [List.pairwise_map]
  refine List.Pairwise.imp ?_ (List.pairwise_lt_range (n := n))
  intro a b h
  have : (a : Int) * c < (b : Int) * c := Int.mul_lt_mul_of_pos_right (by omega) hc
  omega
/-- how many items a range has -/
def rsz (i j c : Int) : Nat := (if i < j then (j - i - 1) / c + 1 else 0).toNat
theorem rng1_ok {j : Int} (h0 : -(2 ^ 62) ≤ j) (h1 : j < 2 ^ 62) : rng1? [.int j] = some ((rngI 0 1 j.toNat).map D.int) := by
  have : smallR j = true := by unfold smallR; simp; omega
  simp [rng1?, this, rngD_eq]
theorem rng2_ok {i j : Int} (g0 : -(2 ^ 62) ≤ i) (g1 : i < 2 ^ 62) (h0 : -(2 ^ 62) ≤ j) (h1 : j < 2 ^ 62) : rng2? [.int i, .int j] = some ((rngI i 1 (j - i).toNat).map D.int) := by
  have a : smallR j = true := by unfold smallR; simp; omega
  have b : smallR i = true := by unfold smallR; simp; omega
  simp [rng2?, a, b, rngD_eq]
theorem rng3_ok {i j c : Int} (c0 : 0 < c) (c1 : c < 1073741824) (g0 : -(2 ^ 62) < i) (g1 : i < 2 ^ 62) (h0 : -(2 ^ 62) < j) (h1 : j < 2 ^ 62) : rng3? [.int i, .int j, .int c] = some ((rngI i c (rsz i j c)).map D.int) := by
  have hs : Builtin.Range.rangeSize i j c = if i < j then (j - i - 1) / c + 1 else 0 := by
    unfold Builtin.Range.rangeSize; rw [if_pos (by omega)]
  have e0 : 0 ≤ (if i < j then (j - i - 1) / c + 1 else 0) := by
    split
    · have := Int.ediv_nonneg (a := j - i - 1) (b := c) (by omega) (by omega); omega
    · omega
  have e1 : (if i < j then (j - i - 1) / c + 1 else 0) < 2 ^ 63 := by
    split
    · have : (j - i - 1) / c ≤ j - i - 1 := Int.ediv_le_self _ (by omega)
      omega
    · omega
  have sm : Builtin.Range.small i j c = true := by
    have z : ∀ q : Int, -(2 ^ 63) ≤ q → q < 2 ^ 63 → Builtin.Range.rangeFitsLong q = true := fun q a b => by
      unfold Builtin.Range.rangeFitsLong; simp only [Bool.and_eq_true, decide_eq_true_eq]; exact ⟨a, b⟩
    unfold Builtin.Range.small
    rw [hs, z i (by omega) (by omega), z j (by omega) (by omega), z c (by omega) (by omega), z _ (by omega) e1]
    rw [if_pos (show c > 0 by omega), z (j + (c - 1)) (by omega) (by omega)]
    simp
  have s0 : 0 ≤ Builtin.Range.rangeSize i j c := by rw [hs]; exact e0
  have n1 : c ≠ 0 := by omega
  have n2 : c.natAbs < 1073741824 := by omega
  have r : rng3? [.int i, .int j, .int c] = some (rngC i c (Builtin.Range.rangeSize i j c).toNat) := by
    unfold rng3?
    simp only [sm, s0, n1, n2, ne_eq, not_false_eq_true, decide_true, Bool.and_self, if_true]
  rw [r, rngC_eq, hs]
  rfl
theorem lcL_int {g : Tgt} {c : Env → Store → Res Bool} {e : Env → Store → Res D} {E : Env} {S : Store} (P : Int → Bool) (fv : Int → D) : ∀ ns : List Int,
    (∀ n ∈ ns, ∃ E1, g (.int n) E = some E1 ∧ c E1 S = .ok (P n) S ∧ (P n = true → e E1 S = .ok (fv n) S)) → lcL g c e (ns.map D.int) E S = .ok ((ns.filter P).map fv) S
  | [], _ => rfl
  | n :: ns, h => by
    obtain ⟨E1, h1, h2, h3⟩ := h n (List.mem_cons_self ..)
    have ih := lcL_int P fv ns fun x hx => h x (List.mem_cons_of_mem _ hx)
    simp only [List.map_cons, lcL, h1, h2, e_bindN_ok]
    cases hp : P n with
    | true => simp only [h3 hp, e_bindN_ok, ih, List.filter_cons_of_pos hp, List.map_cons]
    | false => simp only [ih]; rw [List.filter_cons_of_neg (by simp [hp])]
theorem find_first {l : List Int} {P : Int → Bool} {d : Int} (hl : l.Pairwise (· < ·)) (hd : d ∈ l) (hp : P d = true) (hn : ∀ x ∈ l, x < d → P x = false) : l.find? P = some d := by
  induction l with
  | nil => cases hd
  | cons a l ih =>
    rw [List.pairwise_cons] at hl
    rcases List.mem_cons.mp hd with rfl | hd
    · rw [List.find?_cons_of_pos hp]
    · have := hn a (List.mem_cons_self ..) (hl.1 d hd)
      rw [List.find?_cons_of_neg (by rw [this]; simp)]
      exact ih hl.2 hd fun x hx => hn x (List.mem_cons_of_mem _ hx)
theorem head_filter {l : List Int} {P : Int → Bool} : (l.filter P).head? = l.find? P := by
  rw [← List.head?_filter]
/-- none or an int -/
def optD : Option Int → D
  | none => .non
  | some i => .int i
theorem e_forL_map {t : Tgt} {b : Env → Store → SRes} {E : Env} {S : Store} {n : Int} {ns : List Int} : forL t b ((n :: ns).map D.int) E S = (match t (.int n) E with
    | none => .stk
    | some E1 => match b E1 S with
      | .nx E2 S2 => forL t b (ns.map D.int) E2 S2
      | .ct E2 S2 => forL t b (ns.map D.int) E2 S2
      | .bk E2 S2 => .nx E2 S2
      | r => r) := rfl
/-- the last of a list -/
theorem ix_last {l : List D} {d : D} : gIx (.lst (l ++ [d])) (.int (-1)) = some d := by
  show atI (l ++ [d]) (-1) = some d
  have h1 : ixN (l ++ [d]).length (-1) = some l.length := by
    unfold ixN
    rw [if_neg (by omega), List.length_append, List.length_singleton, if_pos (by omega)]
    congr 1; omega
  unfold atI
  rw [h1]
  simp
theorem mem_rsz {b j s x : Int} (hs : 0 < s) : x ∈ rngI b s (rsz b j s) ↔ ∃ k : Nat, x = b + (k : Int) * s ∧ x < j := by
  rw [mem_rngI]
  have key : ∀ k : Nat, k < rsz b j s ↔ b + (k : Int) * s < j := fun k => by
    unfold rsz
    have h1 : (k : Int) ≤ (j - b - 1) / s ↔ (k : Int) * s ≤ j - b - 1 := Int.le_ediv_iff_mul_le hs
    have k0 : 0 ≤ (k : Int) * s := Int.mul_nonneg (by omega) (by omega)
    split
    · rename_i c
      have h2 := Int.ediv_nonneg (a := j - b - 1) (b := s) (by omega) (by omega)
      constructor
      · intro h
        have := h1.mp (by omega)
        omega
      · intro h
        have := h1.mpr (by omega)
        omega
    · rename_i c
      constructor
      · intro h; simp at h
      · intro h; omega
  constructor
  · rintro ⟨k, h, e⟩
    exact ⟨k, e, by rw [e]; exact (key k).mp h⟩
  · rintro ⟨k, e, h⟩
    exact ⟨k, (key k).mpr (by rw [← e]; exact h), e⟩
@[simp] theorem o_neb {x y : Bool} : gNe (.bl x) (.bl y) = some (.bl (!decide (x = y))) := nrf rfl
theorem in_ints {i : Int} {ns : List Int} : gIn (.int i) (.tup (ns.map D.int)) = some (.bl (ns.any fun n => n == i)) := by
  have h : (ns.map D.int).all flatD = true := by simp [List.all_map, flatD]
  simp [gIn, gInB, inF, flatD, List.any_map, Function.comp_def, eqF, List.all_map]
/-! ### more pieces -/
section
variable {n : Nat} {E : Env} {S : Store} {f : FE} {g : FM}
@[simp] theorem e_fmNil : fmNil n E S = .ok [] S := nrf rfl
@[simp] theorem e_fmFz : fmFz f g n E S = (f n E S).bind fun d S1 => (g n E S1).bind fun ds S2 => .ok (.fz d :: ds) S2 := nrf rfl
@[simp] theorem e_fmOwn : fmOwn f g n E S = (f n E S).bind fun d S1 => (g n E S1).bind fun ds S2 => .ok (.own d :: ds) S2 := nrf rfl
@[simp] theorem e_Pm2 {i j : Nat} : fPm2 i j g n E S = (match g n E S with
  | .ok [a, b] S1 => .nx ((E.set i (some a)).set j (some b)) S1
  | .ok _ _ => .stk
  | .exc x S1 => .ex x E S1
  | .stk => .stk) := nrf rfl
@[simp] theorem e_Pm3 {i j k : Nat} : fPm3 i j k g n E S = (match g n E S with
  | .ok [a, b, c] S1 => .nx (((E.set i (some a)).set j (some b)).set k (some c)) S1
  | .ok _ _ => .stk
  | .exc x S1 => .ex x E S1
  | .stk => .stk) := nrf rfl
end
/-! ### fast powers -/
def pmod (g : Int) : Nat → Int → Int → Nat → Int
  | 0, _, _, _ => -1
  | k + 1, d, e, t => if t = 0 then d % g else pmod g k (if (t : Int) % 2 = 1 then d * e % g else d) (e * e % g) (t / 2)
theorem pmod_eq {g : Int} : ∀ (k : Nat) (d e : Int) (t : Nat), t < 2 ^ k → pmod g (k + 1) d e t = d * e ^ t % g
  | 0, d, e, t, h => by
    have : t = 0 := by simp at h; exact h
    subst this; simp [pmod]
  | k + 1, d, e, t, h => by
    by_cases h0 : t = 0
    · subst h0; simp [pmod]
    · rw [pmod, if_neg h0, pmod_eq k _ _ _ (by rw [Nat.pow_succ] at h; omega), pow_turn]
theorem sq_not {a F : Int} (h1 : a * a < F) (h2 : F < (a + 1) * (a + 1)) (ha : 0 ≤ a) (x : Int) (hx : 0 ≤ x) : x * x ≠ F := fun e => by
  rcases Int.lt_or_le a x with h | h
  · have : (a + 1) * (a + 1) ≤ x * x := Int.mul_le_mul (by omega) (by omega) (by omega) hx
    omega
  · have : x * x ≤ a * a := Int.mul_le_mul h h hx ha
    omega
/-! ### first divisors -/
def fd (n : Int) : Nat → Int → Option Int
  | 0, _ => none
  | k + 1, d => if n % d = 0 then some d else fd n k (d + 1)
theorem fd_none {n : Int} : ∀ {k : Nat} {d : Int}, fd n k d = none → ∀ x, d ≤ x → x < d + k → n % x ≠ 0
  | 0, d, h, x, h1, h2 => by omega
  | k + 1, d, h, x, h1, h2 => by
    unfold fd at h
    by_cases c : n % d = 0
    · rw [if_pos c] at h; cases h
    · rw [if_neg c] at h
      by_cases e : x = d
      · rw [e]; exact c
      · exact fd_none h x (by omega) (by omega)
theorem fd_some {n : Int} : ∀ {k : Nat} {d e : Int}, fd n k d = some e → d ≤ e ∧ e < d + k ∧ n % e = 0 ∧ ∀ x, d ≤ x → x < e → n % x ≠ 0
  | 0, d, e, h => by cases h
  | k + 1, d, e, h => by
    unfold fd at h
    by_cases c : n % d = 0
    · rw [if_pos c] at h; cases h
      exact ⟨by omega, by omega, c, fun x h1 h2 => by omega⟩
    · rw [if_neg c] at h
      obtain ⟨h1, h2, h3, h4⟩ := fd_some h
      refine ⟨by omega, by omega, h3, fun x g1 g2 => ?_⟩
      by_cases e : x = d
      · rw [e]; exact c
      · exact h4 x (by omega) g2
def mn (a b : Int) : Int := if b < a then b else a
/-- the first divisor in a row of steps -/
def ldb (n b s m : Int) : Option Int := (rngI b s (rsz b (mn m (n - 1) + 1) s)).find? fun d => n % d == 0
theorem ldb_eq {n b s m d0 : Int} (hb : 2 ≤ b) (hs : 0 < s) (h1 : d0 < n) (h2 : n % d0 = 0) (h3 : ∀ x, 2 ≤ x → x < d0 → n % x ≠ 0) (h4 : ∃ k : Nat, d0 = b + (k : Int) * s) : ldb n b s m = if d0 ≤ m then some d0 else none := by
  unfold ldb
  by_cases c : d0 ≤ m
  · rw [if_pos c]
    refine find_first (rngI_asc hs) ((mem_rsz hs).mpr ?_) (by simp [h2]) fun x hx hl => ?_
    · obtain ⟨k, e⟩ := h4
      exact ⟨k, e, by unfold mn; split <;> omega⟩
    · obtain ⟨k, e, _⟩ := (mem_rsz hs).mp hx
      have : 0 ≤ (k : Int) * s := Int.mul_nonneg (by omega) (by omega)
      have := h3 x (by omega) hl
      simp [this]
  · rw [if_neg c, List.find?_eq_none]
    intro x hx
    obtain ⟨k, e, h⟩ := (mem_rsz hs).mp hx
    have : 0 ≤ (k : Int) * s := Int.mul_nonneg (by omega) (by omega)
    have := h3 x (by omega) (by unfold mn at h; split at h <;> omega)
    simp [this]
theorem ldb_none {n b s m : Int} (hb : 2 ≤ b) (hs : 0 < s) (h3 : ∀ x, 2 ≤ x → x ≤ m → x < n → n % x ≠ 0) : ldb n b s m = none := by
  unfold ldb
  rw [List.find?_eq_none]
  intro x hx
  obtain ⟨k, e, h⟩ := (mem_rsz hs).mp hx
  have : 0 ≤ (k : Int) * s := Int.mul_nonneg (by omega) (by omega)
  have := h3 x (by omega) (by unfold mn at h; split at h <;> omega) (by unfold mn at h; split at h <;> omega)
  simp [this]
/-- the same divisor is found among all and in the row of steps -/
def okDiv (n s : Int) : Bool := match fd n 2999 2 with
  | none => true
  | some e => e == n || e % s == 1
theorem ldb_same {n s m : Int} (h : okDiv n s = true) (hs : 1 < s) (hm : m ≤ 3000) (hn : 2 ≤ n) : ldb n (s + 1) s m = ldb n 2 1 m ∧ ∀ e, ldb n 2 1 m = some e → fd n 2999 2 = some e ∧ e ≠ n := by
  unfold okDiv at h
  split at h
  · rename_i e
    have := fd_none e
    rw [ldb_none (by omega) (by omega) fun x a b c => this x a (by omega), ldb_none (by omega) (by omega) fun x a b c => this x a (by omega)]
    exact ⟨rfl, fun e h => by cases h⟩
  · rename_i e he
    obtain ⟨g1, g2, g3, g4⟩ := fd_some he
    by_cases c : e = n
    · subst c
      rw [ldb_none (by omega) (by omega) fun x a b d => g4 x a d, ldb_none (by omega) (by omega) fun x a b d => g4 x a d]
      exact ⟨rfl, fun e h => by cases h⟩
    · have hle : e ≤ n := Int.le_of_dvd (by omega) (Int.dvd_of_emod_eq_zero g3)
      simp [c] at h
      have q0 : 0 < e / s := by
        rcases Int.lt_or_le 0 (e / s) with z | z
        · exact z
        · exfalso
          have := Int.mul_ediv_add_emod e s
          have : s * (e / s) ≤ 0 := Int.mul_nonpos_of_nonneg_of_nonpos (by omega) z
          omega
      have k1 : ∃ k : Nat, e = s + 1 + (k : Int) * s := ⟨(e / s - 1).toNat, by
        have e1 : (((e / s - 1).toNat : Nat) : Int) = e / s - 1 := by omega
        rw [e1, Int.sub_mul, Int.one_mul]
        have := Int.mul_ediv_add_emod e s
        rw [Int.mul_comm] at this
        omega⟩
      have k2 : ∃ k : Nat, e = 2 + (k : Int) * 1 := ⟨(e - 2).toNat, by omega⟩
      rw [ldb_eq (by omega) (by omega) (by omega) g3 g4 k1, ldb_eq (by omega) (by omega) (by omega) g3 g4 k2]
      refine ⟨rfl, fun x h => ?_⟩
      split at h
      · cases h; exact ⟨he, c⟩
      · cases h
/-! ### lists of ints, compared -/
theorem pys_ints : ∀ ns : List Int, D.pys (ns.map D.int) = some (ns.map PyData.int)
  | [] => rfl
  | a :: l => by simp only [List.map_cons, D.pys, pys_ints l, D.py]
theorem lay_ints : ∀ ns : List Int, PyData.canLayAll0 (ns.map PyData.int) = true
  | [] => rfl
  | a :: l => by simp only [List.map_cons, PyData.canLayAll0, PyData.canLay0, lay_ints l, Bool.and_self]
theorem deep_ints : ∀ ns : List Int, PyData.depthAll (ns.map PyData.int) = 0
  | [] => rfl
  | a :: l => by simp only [List.map_cons, PyData.depthAll, PyData.depth, deep_ints l]; rfl
theorem eqv_ints : ∀ ns ms : List Int, PyData.eqvAll (ns.map PyData.int) (ms.map PyData.int) = decide (ns = ms)
  | [], [] => rfl
  | [], b :: m => rfl
  | a :: l, [] => rfl
  | a :: l, b :: m => by
    simp only [List.map_cons, PyData.eqvAll, PyData.eqv, eqv_ints l m]
    by_cases h : a = b <;> by_cases h2 : l = m <;> simp [h, h2]
theorem shaped_lst (ns : List Int) : SeqAt.shaped (.list (ns.map PyData.int)) = true := by
  unfold SeqAt.shaped
  simp only [PyData.canLay0, lay_ints, PyData.depth, deep_ints]
  decide
theorem shaped_tup (ns : List Int) : SeqAt.shaped (.tuple (ns.map PyData.int)) = true := by
  unfold SeqAt.shaped
  simp only [PyData.canLay0, lay_ints, PyData.depth, deep_ints]
  decide
theorem eqD_lst {ns ms : List Int} : eqD (.lst (ns.map D.int)) (.lst (ms.map D.int)) = some (decide (ns = ms)) := by
  simp only [eqD, scalD, deepD, D.py, pys_ints, Option.map_some, shaped_lst, Bool.and_self, if_true, PyData.eqv, eqv_ints]
theorem eqD_tup {ns ms : List Int} : eqD (.tup (ns.map D.int)) (.tup (ms.map D.int)) = some (decide (ns = ms)) := by
  simp only [eqD, scalD, deepD, D.py, pys_ints, Option.map_some, shaped_tup, Bool.and_self, if_true, PyData.eqv, eqv_ints]
theorem ne_nil {ns : List Int} : gNe (.lst (ns.map D.int)) (.lst []) = some (.bl (!decide (ns = []))) := by
  have := eqD_lst (ns := ns) (ms := [])
  simp only [List.map_nil] at this
  simp only [gNe, this, Option.map_some]
theorem ix_head {a : Int} {ns : List Int} : gIx (.lst ((a :: ns).map D.int)) (.int 0) = some (.int a) := by
  show atI (.int a :: ns.map D.int) 0 = some (.int a)
  have h1 : ixN (D.int a :: ns.map D.int).length 0 = some 0 := by
    unfold ixN
    rw [if_pos (by omega), if_pos (by rw [List.length_cons]; omega)]
    rfl
  unfold atI
  rw [h1]
  rfl
theorem seq_nx {s1 s2 : FS} {n : Nat} {E E' : Env} {S S' : Store} (h : s1 n E S = .nx E' S') : fSeq s1 s2 n E S = s2 n E' S' := by
  unfold fSeq; rw [h]
end DL

end

section
set_option autoImplicit false
set_option autoImplicit false
namespace DL
open PySem PySem.Spec PyProof.Rows L2
section
variable {n : Nat} {E : Env} {S : Store} {f fk fx : FE} {lo hi : FO} {i j : Nat}
@[simp] theorem e_foN : foN n E S = .ok none S := nrf rfl
@[simp] theorem e_foS : foS f n E S = (f n E S).bind fun d S1 => match d with
  | .int i => .ok (some i) S1
  | _ => .stk := nrf rfl
@[simp] theorem e_Sl : fSl f lo hi n E S = (f n E S).bind fun d S1 => (lo n E S1).bind fun a S2 => (hi n E S2).bind fun b S3 => match gSl d a b with
  | some r => .ok r S3
  | none => .stk := nrf rfl
@[simp] theorem o_slL {l : List D} {a b : Option Int} : gSl (.lst l) a b = some (.lst (cutD l a b)) := nrf rfl
@[simp] theorem o_slT {l : List D} {a b : Option Int} : gSl (.tup l) a b = some (.tup (cutD l a b)) := nrf rfl
@[simp] theorem e_DNew : fDNew n E S = .ok (.dct []) S := nrf rfl
theorem e_DSet : fDSet i fk f n E S = (match f n E S with
  | .ok d S1 => match E[i]? with
    | some (some (.own (.dct l))) => match fk n E S1 with
      | .ok dk S2 => match keyD dk with
        | some k => if l.length < 1000000 then .nx (E.set i (some (.own (.dct (puD l k d))))) S2 else .stk
        | none => .stk
      | .exc x S1 => .ex x E S1
      | .stk => .stk
    | _ => .stk
  | .exc x S1 => .ex x E S1
  | .stk => .stk) := nrf rfl
@[simp] theorem e_DGet2 : fDGet2 f fk fx n E S = (f n E S).bind fun d S1 => match d with
  | .dct l => (fk n E S1).bind fun dk S2 => (fx n E S2).bind fun z S3 => match keyD dk with
    | some k => .ok ((lkD l k).getD z) S3
    | none => .stk
  | _ => .stk := nrf rfl
@[simp] theorem e_Index : fIndex f fx n E S = (f n E S).bind fun d S1 => match d with
  | .lst l => (fx n E S1).bind fun b S2 => match gIndex (.lst l) b with
    | some d => .ok d S2
    | none => .stk
  | _ => .stk := nrf rfl
theorem e_Pop : fPop i j n E S = (match E[i]? with
  | some (some (.own (.lst l))) => match l[l.length - 1]? with
    | some d => .nx ((E.set i (some (.own (.lst l.dropLast)))).set j (some (.fz d))) S
    | none => .stk
  | _ => .stk) := nrf rfl
theorem e_App : fApp i f n E S = (match E[i]? with
  | some (some (.own (.lst l))) => match f n E S with
    | .ok d S1 => if l.length < 1000000 then .nx (E.set i (some (.own (.lst (l ++ [d]))))) S1 else .stk
    | .exc x S1 => .ex x E S1
    | .stk => .stk
  | _ => .stk) := nrf rfl
@[simp] theorem e_Index_key {k : Int} : keyD (.int k) = some (.inl k) := nrf rfl
@[simp] theorem e_Count : fCount f fx n E S = (f n E S).bind fun d S1 => match d with
  | .lst l => (fx n E S1).bind fun b S2 => match gCount (.lst l) b with
    | some d => .ok d S2
    | none => .stk
  | _ => .stk := nrf rfl
@[simp] theorem o_count {ns : List Int} {k : Int} : gCount (.lst (ns.map D.int)) (.int k) = some (.int (ns.count k : Nat)) := by
  show (ints? _).map _ = _
  rw [ints?_map]; rfl
@[simp] theorem o_revL {l : List D} : gRevL (.lst l) = some (.lst l.reverse) := nrf rfl
@[simp] theorem o_revA {l : List D} : gRev (.lst l) = some (.lst l.reverse) := nrf rfl
@[simp] theorem o_revB {l : List D} : gRev (.tup l) = some (.tup l.reverse) := nrf rfl
@[simp] theorem e_Items : fItems f n E S = (f n E S).bind fun d S1 => match d with
  | .dct l => .ok (l.map itD) S1
  | _ => .stk := nrf rfl
@[simp] theorem e_Keys : fKeys f n E S = (f n E S).bind fun d S1 => match d with
  | .dct l => .ok (l.map fun q => kD q.1) S1
  | _ => .stk := nrf rfl
@[simp] theorem e_Dict1 : fDict1 fk f n E S = (fk n E S).bind fun dk S1 => (f n E S1).bind fun d S2 => match keyD dk with
  | some k => .ok (.dct [(k, d)]) S2
  | none => .stk := nrf rfl
theorem e_Move : fMove i j n E S = (match E[i]? with
  | some (some (.own d)) => .nx ((E.set i none).set j (some (.own d))) S
  | _ => .stk) := nrf rfl
@[simp] theorem e_Pmn {i j k : Nat} {g : FM} : fPmn i j k g n E S = (match g n E S with
  | .ok [.fz (.tup [a, b]), c] S1 => .nx (((E.set i (some (.fz a))).set j (some (.fz b))).set k (some c)) S1
  | .ok _ _ => .stk
  | .exc x S1 => .ex x E S1
  | .stk => .stk) := nrf rfl
@[simp] theorem e_LockD {s : FS} : fLockD i s n E S = s n (lockE E i) S := nrf rfl
@[simp] theorem e_DictL {g : FA} : fDictL g n E S = (g n E S).bind fun ds S1 => match gDictP ds with
  | some l => .ok (.dct l) S1
  | none => .stk := nrf rfl
end
theorem for_nx {t : Tgt} {b : Env → Store → SRes} {d : D} {l : List D} {E E1 E2 : Env} {S S2 : Store} (h1 : t d E = some E1) (h2 : b E1 S = .nx E2 S2) : forL t b (d :: l) E S = forL t b l E2 S2 := by
  simp only [forL, h1, h2]
theorem for_ct {t : Tgt} {b : Env → Store → SRes} {d : D} {l : List D} {E E1 E2 : Env} {S S2 : Store} (h1 : t d E = some E1) (h2 : b E1 S = .ct E2 S2) : forL t b (d :: l) E S = forL t b l E2 S2 := by
  simp only [forL, h1, h2]
theorem for_nil {t : Tgt} {b : Env → Store → SRes} {E : Env} {S : Store} : forL t b [] E S = .nx E S := rfl
/-- a while, turn by turn -/
theorem while_nx {c : Env → Store → Res Bool} {b : Env → Store → SRes} {k : Nat} {E E2 : Env} {S S1 S2 : Store} (h1 : c E S = .ok true S1) (h2 : b E S1 = .nx E2 S2) : whileL c b (k + 1) E S = whileL c b k E2 S2 := by
  simp only [whileL, h1, h2]
theorem while_end {c : Env → Store → Res Bool} {b : Env → Store → SRes} {k : Nat} {E : Env} {S S1 : Store} (h1 : c E S = .ok false S1) : whileL c b (k + 1) E S = .nx E S1 := by
  simp only [whileL, h1]
/-- lists of turns over numbers -/
theorem rngI_succ {i : Int} {k : Nat} : rngI i 1 (k + 1) = i :: rngI (i + 1) 1 k := by
  unfold rngI
  rw [List.range_succ_eq_map]
  simp only [List.map_cons, List.map_map]
  congr 1
  · simp
  · apply List.map_congr_left
    intro x _
    simp only [Function.comp]
    omega
theorem in_lst {i : Int} {ns : List Int} : gIn (.int i) (.lst (ns.map D.int)) = some (.bl (ns.any fun n => n == i)) := by
  have h : (ns.map D.int).all flatD = true := by simp [List.all_map, flatD]
  simp [gIn, gInB, inF, flatD, List.any_map, Function.comp_def, eqF, List.all_map]
theorem nin_lst {i : Int} {ns : List Int} : gNin (.int i) (.lst (ns.map D.int)) = some (.bl (!ns.any fun n => n == i)) := by
  have h : (ns.map D.int).all flatD = true := by simp [List.all_map, flatD]
  simp [gNin, gInB, inF, flatD, List.any_map, Function.comp_def, eqF, List.all_map]
theorem lcL_all {α : Type} {g : Tgt} {c : Env → Store → Res Bool} {e : Env → Store → Res D} {E : Env} {S : Store} (enc fv : α → D) (P : α → Bool) : ∀ l : List α,
    (∀ a ∈ l, ∃ E1, g (enc a) E = some E1 ∧ c E1 S = .ok (P a) S ∧ (P a = true → e E1 S = .ok (fv a) S)) → lcL g c e (l.map enc) E S = .ok ((l.filter P).map fv) S
  | [], _ => rfl
  | a :: l, h => by
    obtain ⟨E1, h1, h2, h3⟩ := h a (List.mem_cons_self ..)
    have ih := lcL_all enc fv P l fun x hx => h x (List.mem_cons_of_mem _ hx)
    simp only [List.map_cons, lcL, h1, h2, e_bindN_ok]
    cases hp : P a with
    | true => simp only [h3 hp, e_bindN_ok, ih, List.filter_cons_of_pos hp, List.map_cons]
    | false => simp only [ih]; rw [List.filter_cons_of_neg (by simp [hp])]
/-- all items, no test -/
theorem lcL_yes {α : Type} {g : Tgt} {e : Env → Store → Res D} {E : Env} {S : Store} {n : Nat} (enc fv : α → D) (l : List α)
    (h : ∀ a ∈ l, ∃ E1, g (enc a) E = some E1 ∧ e E1 S = .ok (fv a) S) : lcL g (fYes n) e (l.map enc) E S = .ok (l.map fv) S := by
  have := lcL_all (g := g) (c := fYes n) (e := e) (E := E) (S := S) enc fv (fun _ => true) l fun a ha => by
    obtain ⟨E1, h1, h2⟩ := h a ha
    exact ⟨E1, h1, rfl, fun _ => h2⟩
  rw [this]
  congr 2
  exact List.filter_eq_self.mpr fun _ _ => rfl
end DL

end

section
set_option autoImplicit false
set_option autoImplicit false
namespace DL
open PySem PySem.Spec PyProof.Rows L2
/-- a comprehension with two clauses and no test, over ints -/
theorem lc2L_yes {g g1 : Tgt} {it1 : Env → Store → Res (List D)} {e : Env → Store → Res D} {vs1 : List Nat} {E : Env} {S : Store} {n : Nat} (ys : List Int) (fv : Int → Int → D) : ∀ xs : List Int,
    (∀ x ∈ xs, ∃ E1, g (.int x) E = some E1 ∧ it1 E1 S = .ok (ys.map D.int) S ∧ ∀ y ∈ ys, ∃ E2, g1 (.int y) (wipeE E1 vs1) = some E2 ∧ e E2 S = .ok (fv x y) S) →
    lc2L g (fYes n) it1 g1 (fYes n) e vs1 (xs.map D.int) E S = .ok (xs.flatMap fun x => ys.map (fv x)) S
  | [], _ => rfl
  | x :: xs, h => by
    obtain ⟨E1, h1, h2, h3⟩ := h x (List.mem_cons_self ..)
    have ih := lc2L_yes (n := n) ys fv xs fun z hz => h z (List.mem_cons_of_mem _ hz)
    have inn := lcL_yes (g := g1) (e := e) (E := wipeE E1 vs1) (S := S) (n := n) D.int (fv x) ys h3
    have hy : fYes n E1 S = .ok true S := rfl
    simp only [List.map_cons, lc2L, h1, hy, e_bindN_ok, h2, inn, ih, List.flatMap_cons]
theorem lc2_ok {it it1 : FA} {g g1 : Tgt} {e : FE} {vs vs1 : List Nat} {n : Nat} {E : Env} {S : Store} {ds L : List D} (h1 : it n E S = .ok ds S) (h2 : lc2L g (fYes n) (it1 n) g1 (fYes n) (e n) vs1 ds (wipeE E vs) S = .ok L S) (h3 : L.length ≤ 1000000) :
    fLc2 it g fYes it1 g1 fYes e vs vs1 n E S = .ok (.lst L) S := by
  unfold fLc2
  rw [h1]
  show ((lc2L g (fYes n) (it1 n) g1 (fYes n) (e n) vs1 ds (wipeE E vs) S).bindN fun l S2 => if l.length ≤ 1000000 then Res.ok (D.lst l) S2 else Res.stk) = _
  rw [h2]
  show (if L.length ≤ 1000000 then Res.ok (D.lst L) S else Res.stk) = _
  rw [if_pos h3]
/-- the dict made of pairs (int, True): its keys -/
theorem prD_true : ∀ xs : List Int, prD? (xs.map fun x => D.tup [.int x, .bl true]) = some (xs.map fun x => (.inl x, .bl true))
  | [] => rfl
  | x :: xs => by
    have ih := prD_true xs
    simp only [List.map_cons, prD?, keyD, Option.bind_some, ih, Option.map_some]
theorem e_SetIx {n : Nat} {E : Env} {S : Store} {i : Nat} {fk fv : FE} : fSetIx i fk fv n E S = (match fv n E S with
  | .ok d S1 => match E[i]? with
    | some (some (.own (.lst l))) => match fk n E S1 with
      | .ok (.int k) S2 => match ixN l.length k with
        | some j => .nx (E.set i (some (.own (.lst (l.set j d))))) S2
        | none => .stk
      | .ok _ _ => .stk
      | .exc x S1 => .ex x E S1
      | .stk => .stk
    | _ => .stk
  | .exc x S1 => .ex x E S1
  | .stk => .stk) := nrf rfl
theorem ixN_nat {n i : Nat} (h : i < n) : ixN n (i : Int) = some i := by
  unfold ixN
  rw [if_pos (by omega), if_pos (by omega)]; rfl
theorem ixN_int {n : Nat} {i : Int} (h0 : 0 ≤ i) (h : i < n) : ixN n i = some i.toNat := by
  unfold ixN
  rw [if_pos (by omega), if_pos (by omega)]
/-- a list of numbers by a function -/
def FL (n : Nat) (f : Nat → Int) : List D := (List.range n).map fun r => D.int (f r)
theorem FL_len {n : Nat} {f : Nat → Int} : (FL n f).length = n := by simp [FL]
theorem FL_get {n i : Nat} {f : Nat → Int} (h : i < n) : (FL n f)[i]? = some (.int (f i)) := by simp [FL, h]
theorem FL_at {n : Nat} {i : Int} {f : Nat → Int} (h0 : 0 ≤ i) (h : i < n) : gIx (.lst (FL n f)) (.int i) = some (.int (f i.toNat)) := by
  show atI _ _ = _
  unfold atI
  rw [FL_len, ixN_int h0 h]
  exact FL_get (by omega)
theorem FL_ext {n : Nat} {f g : Nat → Int} (h : ∀ i, i < n → f i = g i) : FL n f = FL n g := by
  unfold FL
  apply List.map_congr_left
  intro a ha
  rw [h a (List.mem_range.mp ha)]
theorem FL_set {n i : Nat} {v : Int} {f : Nat → Int} : (FL n f).set i (.int v) = FL n (fun r => if r = i then v else f r) := by
  apply List.ext_getElem?
  intro j
  rw [List.getElem?_set]
  by_cases hj : j < n
  · rw [FL_get hj, FL_get hj, FL_len]
    by_cases e : i = j
    · subst e; rw [if_pos rfl, if_pos hj, if_pos rfl]
    · rw [if_neg e, if_neg (fun z => e z.symm)]
  · have z : ∀ g, (FL n g)[j]? = none := fun g => List.getElem?_eq_none (by rw [FL_len]; omega)
    rw [z, z, FL_len]
    by_cases e : i = j
    · subst e; rw [if_pos rfl, if_neg hj]
    · rw [if_neg e]
theorem enumD_map {α : Type} (g : α → D) : ∀ (l : List α) (k : Nat), enumD k (l.map g) = l.mapIdx fun i a => D.tup [.int (k + i : Nat), g a]
  | [], k => rfl
  | a :: l, k => by
    rw [List.map_cons, List.mapIdx_cons]
    show _ :: enumD (k + 1) (l.map g) = _
    rw [enumD_map g l (k + 1)]
    congr 1
    apply List.ext_getElem?
    intro i
    simp only [List.getElem?_mapIdx]
    congr 1
    funext a
    have : k + 1 + i = k + (i + 1) := by omega
    rw [this]
theorem enumD_FL {n : Nat} {f : Nat → Int} : enumD 0 (FL n f) = (List.range n).map fun r : Nat => D.tup [.int (r : Nat), .int (f r)] := by
  unfold FL
  rw [enumD_map]
  apply List.ext_getElem?
  intro i
  rw [List.getElem?_mapIdx, List.getElem?_map]
  by_cases h : i < n
  · rw [List.getElem?_range h]; simp
  · rw [List.getElem?_eq_none (by simpa using h)]; rfl
theorem enum_FL {n : Nat} {f : Nat → Int} : enum? [.lst (FL n f)] = some ((List.range n).map fun r : Nat => D.tup [.int (r : Nat), .int (f r)]) := by
  show some _ = _
  rw [enumD_FL]
theorem FL_rep {n : Nat} (h : n ≤ 1000000) : gRep (.lst [.int 0]) (.int n) = some (.lst (FL n fun _ => 0)) := by
  have hl : [D.int 0].length = 1 := rfl
  have h1 : decide ((n : Int) < 2 ^ 63) = true := by rw [decide_eq_true_eq]; omega
  have h2 : decide (-(2 ^ 63) ≤ (n : Int)) = true := by rw [decide_eq_true_eq]; omega
  have h3 : decide ([D.int 0].length * (n : Int).toNat ≤ sizeLine) = true := by rw [decide_eq_true_eq, hl]; unfold sizeLine; omega
  unfold gRep
  simp only [h1, h2, h3, Bool.and_self, if_true]
  have e : (n : Int).toNat = n := by omega
  rw [e]
  refine congrArg (fun l => some (D.lst l)) ?_
  unfold FL
  clear e h h1 h2 h3 hl
  induction n with
  | zero => rfl
  | succ n ih => rw [List.replicate_succ', List.flatten_append, ih, List.range_succ, List.map_append]; rfl
end DL

end

section
set_option autoImplicit true
namespace LW
open PySem PySem.Spec PyProof.Rows L2 DL HZ
-- functions
def tfL : List Str := ["_law_shapes_right", "_law_numbers_right"]
def N_is_integer : List Str := ["value"]
def f_is_integer : FS := (fRet (fAnd (fCB gIsi (fCons (fRd 0) (fCons (fC (.ty "int")) fNil))) (fNot (fCB gIsi (fCons (fRd 0) (fCons (fC (.ty "bool")) fNil))))))
def m_is_integer : MF := fun ds S => bodyR (f_is_integer fuel (startE N_is_integer ds) S)
def N_is_whole : List Str := ["value", "low", "high"]
def f_is_whole : FS := (fRet (fAnd (fCall m_is_integer (fCons (fVar 0) fNil)) (fChain gLe gLe (fRd 1) (fRd 0) (fRd 2))))
def m_is_whole : MF := fun ds S => bodyR (f_is_whole fuel (startE N_is_whole ds) S)
def N_need_whole : List Str := ["value", "low", "high"]
def f_need_whole : FS := (fIfS (fNotT (fBool (fCall m_is_whole (fCons (fVar 0) (fCons (fVar 1) (fCons (fVar 2) fNil)))))) (fRaise "InvalidNumber") fSkip)
def m_need_whole : MF := fun ds S => bodyR (f_need_whole fuel (startE N_need_whole ds) S)
def N_least_factor : List Str := ["number", "prime", "part"]
def fb1_least_factor : FS := (fIfS (fBool (fOp gEq (fOp gMod (fRd 0) (fRd 1)) (fC (.int 0)))) (fRet (fVar 1)) fSkip)
def wc1_least_factor : FT := (fBool (fOp gLe (fOp gMul (fRd 2) (fRd 2)) (fRd 0)))
def wb1_least_factor : FS := (fSeq (fIfS (fBool (fOp gEq (fOp gMod (fRd 0) (fRd 2)) (fC (.int 0)))) (fRet (fVar 2)) fSkip) (fSeq (fIfS (fBool (fOp gEq (fOp gMod (fRd 0) (fOp gAdd (fRd 2) (fC (.int 2)))) (fC (.int 0)))) (fRet (fOp gAdd (fRd 2) (fC (.int 2)))) fSkip) (fSet 2 (fOp gAdd (fRd 2) (fC (.int 6))))))
def f_least_factor : FS := (fSeq (fFor (fIt (fTup (fCons (fC (.int 2)) (fCons (fC (.int 3)) fNil)))) (gN 1) (fb1_least_factor)) (fSeq (fSet 2 (fC (.int 5))) (fSeq (fWhile (wc1_least_factor) (wb1_least_factor)) (fRet (fVar 0)))))
def m_least_factor : MF := fun ds S => bodyR (f_least_factor fuel (startE N_least_factor ds) S)
def N_is_prime_in : List Str := ["number"]
def f_is_prime_in : FS := (fRet (fAnd (fOp gGt (fRd 0) (fC (.int 1))) (fOp gEq (fCall m_least_factor (fCons (fVar 0) fNil)) (fRd 0))))
def m_is_prime_in : MF := fun ds S => bodyR (f_is_prime_in fuel (startE N_is_prime_in ds) S)
def N_power_in : List Str := ["one", "times", "great", "found", "here", "left"]
def wc1_power_in : FT := (fBool (fOp gGt (fRd 5) (fC (.int 0))))
def wb1_power_in : FS := (fSeq (fIfS (fBool (fOp gEq (fOp gMod (fRd 5) (fC (.int 2))) (fC (.int 1)))) (fSet 3 (fOp gMod (fOp gMul (fRd 3) (fRd 4)) (fRd 2))) fSkip) (fPar2 4 5 (fCons (fOp gMod (fOp gMul (fRd 4) (fRd 4)) (fRd 2)) (fCons (fOp gDiv (fRd 5) (fC (.int 2))) fNil))))
def f_power_in : FS := (fSeq (fPar3 3 4 5 (fCons (fC (.int 1)) (fCons (fOp gMod (fRd 0) (fRd 2)) (fCons (fVar 1) fNil)))) (fSeq (fWhile (wc1_power_in) (wb1_power_in)) (fRet (fOp gMod (fRd 3) (fRd 2)))))
def m_power_in : MF := fun ds S => bodyR (f_power_in fuel (startE N_power_in ds) S)
def N_sign_in : List Str := ["one", "odd", "sign", "top", "below"]
def wc1_sign_in : FT := (fBool (fOp gEq (fOp gMod (fRd 3) (fC (.int 2))) (fC (.int 0))))
def wb1_sign_in : FS := (fSeq (fSet 3 (fOp gDiv (fRd 3) (fC (.int 2)))) (fSet 2 (fIf (fBool (fOp gIn (fOp gMod (fRd 4) (fC (.int 8))) (fTup (fCons (fC (.int 3)) (fCons (fC (.int 5)) fNil))))) (fUn gNeg (fVar 2)) (fVar 2))))
def wc2_sign_in : FT := (fBool (fOp gNe (fRd 3) (fC (.int 0))))
def wb2_sign_in : FS := (fSeq (fWhile (wc1_sign_in) (wb1_sign_in)) (fSeq (fSet 2 (fIf (fAndT (fBool (fOp gEq (fOp gMod (fRd 3) (fC (.int 4))) (fC (.int 3)))) (fBool (fOp gEq (fOp gMod (fRd 4) (fC (.int 4))) (fC (.int 3))))) (fUn gNeg (fVar 2)) (fVar 2))) (fPar2 3 4 (fCons (fOp gMod (fRd 4) (fRd 3)) (fCons (fVar 3) fNil)))))
def f_sign_in : FS := (fSeq (fPar3 2 3 4 (fCons (fC (.int 1)) (fCons (fOp gMod (fRd 0) (fRd 1)) (fCons (fVar 1) fNil)))) (fSeq (fWhile (wc2_sign_in) (wb2_sign_in)) (fRet (fIf (fBool (fOp gEq (fRd 4) (fC (.int 1)))) (fVar 2) (fC (.int 0))))))
def m_sign_in : MF := fun ds S => bodyR (f_sign_in fuel (startE N_sign_in ds) S)
def N_above_in : List Str := ["front", "power", "found", "turn"]
def fb1_above_in : FS := (fSet 2 (fOp gMul (fC (.int 2)) (fRd 2)))
def f_above_in : FS := (fSeq (fSet 2 (fVar 0)) (fSeq (fFor (fLift rng1? (fCons (fVar 1) fNil)) (gN 3) (fb1_above_in)) (fRet (fOp gAdd (fRd 2) (fC (.int 1))))))
def m_above_in : MF := fun ds S => bodyR (f_above_in fuel (startE N_above_in ds) S)
def N_fits_two_shape : List Str := ["front", "power"]
def f_fits_two_shape : FS := (fSeq (fIfS (fOrT (fNotT (fBool (fCall m_is_whole (fCons (fVar 0) (fCons (fC (.int 1)) (fCons (fC (.int 10000000000000000000000000000000000000000)) fNil)))))) (fOrT (fBool (fOp gEq (fOp gMod (fRd 0) (fC (.int 2))) (fC (.int 0)))) (fNotT (fBool (fCall m_is_whole (fCons (fVar 1) (fCons (fC (.int 1)) (fCons (fC (.int 132)) fNil)))))))) (fRet (fC (.bl false))) fSkip) (fRet (fAnd (fOp gGt (fOp gSub (fCall m_above_in (fCons (fC (.int 1)) (fCons (fVar 1) fNil))) (fC (.int 1))) (fRd 0)) (fOp gLe (fCall m_above_in (fCons (fVar 0) (fCons (fVar 1) fNil))) (fC (.int 10000000000000000000000000000000000000000))))))
def m_fits_two_shape : MF := fun ds S => bodyR (f_fits_two_shape fuel (startE N_fits_two_shape ds) S)
def N_need_two_shape : List Str := ["front", "power"]
def f_need_two_shape : FS := (fIfS (fNotT (fBool (fCall m_fits_two_shape (fCons (fVar 0) (fCons (fVar 1) fNil))))) (fRaise "InvalidShape") fSkip)
def m_need_two_shape : MF := fun ds S => bodyR (f_need_two_shape fuel (startE N_need_two_shape ds) S)
def N_shape_in : List Str := ["great", "front", "power"]
def wc1_shape_in : FT := (fBool (fOp gEq (fOp gMod (fRd 1) (fC (.int 2))) (fC (.int 0))))
def wb1_shape_in : FS := (fPar2 1 2 (fCons (fOp gDiv (fRd 1) (fC (.int 2))) (fCons (fOp gAdd (fRd 2) (fC (.int 1))) fNil)))
def f_shape_in : FS := (fSeq (fPar2 1 2 (fCons (fOp gSub (fRd 0) (fC (.int 1))) (fCons (fC (.int 0)) fNil))) (fSeq (fWhile (wc1_shape_in) (wb1_shape_in)) (fRet (fTup (fCons (fVar 1) (fCons (fVar 2) fNil))))))
def m_shape_in : MF := fun ds S => bodyR (f_shape_in fuel (startE N_shape_in ds) S)
def N_half_in : List Str := ["base", "great"]
def f_half_in : FS := (fRet (fCall m_power_in (fCons (fVar 0) (fCons (fOp gDiv (fRd 1) (fC (.int 2))) (fCons (fVar 1) fNil)))))
def m_half_in : MF := fun ds S => bodyR (f_half_in fuel (startE N_half_in ds) S)
def N_is_square_number : List Str := ["number", "low", "high", "middle"]
def wc1_is_square_number : FT := (fBool (fOp gGt (fOp gSub (fRd 2) (fRd 1)) (fC (.int 1))))
def wb1_is_square_number : FS := (fSeq (fSet 3 (fOp gDiv (fOp gAdd (fRd 1) (fRd 2)) (fC (.int 2)))) (fIfS (fBool (fOp gLe (fOp gMul (fRd 3) (fRd 3)) (fRd 0))) (fSet 1 (fVar 3)) (fSet 2 (fVar 3))))
def f_is_square_number : FS := (fSeq (fPar2 1 2 (fCons (fC (.int 1)) (fCons (fOp gAdd (fRd 0) (fC (.int 1))) fNil))) (fSeq (fWhile (wc1_is_square_number) (wb1_is_square_number)) (fRet (fOp gEq (fOp gMul (fRd 1) (fRd 1)) (fRd 0)))))
def m_is_square_number : MF := fun ds S => bodyR (f_is_square_number fuel (startE N_is_square_number ds) S)
def N_paper_base : List Str := ["great", "base"]
def wc1_paper_base : FT := (fBool (fOp gEq (fCall m_sign_in (fCons (fVar 1) (fCons (fVar 0) fNil))) (fC (.int 1))))
def wb1_paper_base : FS := (fSet 1 (fOp gAdd (fRd 1) (fC (.int 1))))
def f_paper_base : FS := (fSeq (fSet 1 (fC (.int 2))) (fSeq (fWhile (wc1_paper_base) (wb1_paper_base)) (fRet (fVar 1))))
def m_paper_base : MF := fun ds S => bodyR (f_paper_base fuel (startE N_paper_base ds) S)
def N_is_prime_above : List Str := ["great"]
def f_is_prime_above : FS := (fSeq (fIfS (fBool (fOp gEq (fRd 0) (fC (.int 3)))) (fRet (fC (.bl true))) fSkip) (fRet (fAnd (fNot (fCall m_is_square_number (fCons (fVar 0) fNil))) (fOp gEq (fCall m_half_in (fCons (fCall m_paper_base (fCons (fVar 0) fNil)) (fCons (fVar 0) fNil))) (fOp gSub (fRd 0) (fC (.int 1)))))))
def m_is_prime_above : MF := fun ds S => bodyR (f_is_prime_above fuel (startE N_is_prime_above ds) S)
def N_is_false_in : List Str := ["base", "great", "rest", "sign"]
def f_is_false_in : FS := (fSeq (fPar2 2 3 (fCons (fCall m_half_in (fCons (fVar 0) (fCons (fVar 1) fNil))) (fCons (fCall m_sign_in (fCons (fVar 0) (fCons (fVar 1) fNil))) fNil))) (fSeq (fIfS (fBool (fOp gEq (fRd 2) (fC (.int 1)))) (fRet (fOp gNe (fRd 3) (fC (.int 1)))) fSkip) (fRet (fOr (fOp gNe (fRd 2) (fOp gSub (fRd 1) (fC (.int 1)))) (fOp gNe (fRd 3) (fUn gNeg (fC (.int 1))))))))
def m_is_false_in : MF := fun ds S => bodyR (f_is_false_in fuel (startE N_is_false_in ds) S)
def N_is_odd_great : List Str := ["value"]
def f_is_odd_great : FS := (fRet (fAnd (fCall m_is_whole (fCons (fVar 0) (fCons (fC (.int 3)) (fCons (fC (.int 10000000000000000000000000000000000000000)) fNil)))) (fOp gEq (fOp gMod (fRd 0) (fC (.int 2))) (fC (.int 1)))))
def m_is_odd_great : MF := fun ds S => bodyR (f_is_odd_great fuel (startE N_is_odd_great ds) S)
def N_is_base_to : List Str := ["value", "great"]
def f_is_base_to : FS := (fRet (fAnd (fCall m_is_integer (fCons (fVar 0) fNil)) (fChain gLe gLt (fC (.int 2)) (fRd 0) (fRd 1))))
def m_is_base_to : MF := fun ds S => bodyR (f_is_base_to fuel (startE N_is_base_to ds) S)
def N_is_two_shape : List Str := ["front", "power"]
def f_is_two_shape : FS := (fRet (fCall m_fits_two_shape (fCons (fVar 0) (fCons (fVar 1) fNil))))
def m_is_two_shape : MF := fun ds S => bodyR (f_is_two_shape fuel (startE N_is_two_shape ds) S)
def N_number_above : List Str := ["front", "power"]
def f_number_above : FS := (fSeq (fExp (fCall m_need_two_shape (fCons (fVar 0) (fCons (fVar 1) fNil)))) (fRet (fCall m_above_in (fCons (fVar 0) (fCons (fVar 1) fNil)))))
def m_number_above : MF := fun ds S => bodyR (f_number_above fuel (startE N_number_above ds) S)
def N_shape_of : List Str := ["great", "front", "power"]
def f_shape_of : FS := (fSeq (fIfS (fNotT (fBool (fCall m_is_odd_great (fCons (fVar 0) fNil)))) (fRaise "InvalidNumber") fSkip) (fSeq (fAsg (gT (gConss (gN 1) (gConss (gN 2) gNils))) (fCall m_shape_in (fCons (fVar 0) fNil))) (fRet (fIf (fBool (fCall m_fits_two_shape (fCons (fVar 1) (fCons (fVar 2) fNil)))) (fTup (fCons (fVar 1) (fCons (fVar 2) fNil))) (fC .non)))))
def m_shape_of : MF := fun ds S => bodyR (f_shape_of fuel (startE N_shape_of ds) S)
def N_half_rest : List Str := ["base", "great"]
def f_half_rest : FS := (fSeq (fIfS (fNotT (fBool (fCall m_is_whole (fCons (fVar 0) (fCons (fOp gSub (fC (.int 1)) (fC (.int 1000000000000000000000000000000000000000000000000000000000000))) (fCons (fOp gSub (fC (.int 1000000000000000000000000000000000000000000000000000000000000)) (fC (.int 1))) fNil)))))) (fRaise "InvalidBase") fSkip) (fSeq (fIfS (fNotT (fBool (fCall m_is_odd_great (fCons (fVar 1) fNil)))) (fRaise "InvalidNumber") fSkip) (fRet (fCall m_half_in (fCons (fVar 0) (fCons (fVar 1) fNil))))))
def m_half_rest : MF := fun ds S => bodyR (f_half_rest fuel (startE N_half_rest ds) S)
def N_is_shape_prime : List Str := ["front", "power"]
def f_is_shape_prime : FS := (fSeq (fExp (fCall m_need_two_shape (fCons (fVar 0) (fCons (fVar 1) fNil)))) (fRet (fCall m_is_prime_above (fCons (fCall m_above_in (fCons (fVar 0) (fCons (fVar 1) fNil))) fNil))))
def m_is_shape_prime : MF := fun ds S => bodyR (f_is_shape_prime fuel (startE N_is_shape_prime ds) S)
def N_proth_paper : List Str := ["front", "power", "great"]
def f_proth_paper : FS := (fSeq (fExp (fCall m_need_two_shape (fCons (fVar 0) (fCons (fVar 1) fNil)))) (fSeq (fSet 2 (fCall m_above_in (fCons (fVar 0) (fCons (fVar 1) fNil)))) (fSeq (fIfS (fBool (fOp gEq (fRd 2) (fC (.int 3)))) (fRet (fC (.int 2))) fSkip) (fRet (fIf (fBool (fCall m_is_prime_above (fCons (fVar 2) fNil))) (fCall m_paper_base (fCons (fVar 2) fNil)) (fC .non))))))
def m_proth_paper : MF := fun ds S => bodyR (f_proth_paper fuel (startE N_proth_paper ds) S)
def N_is_proth_paper : List Str := ["front", "power", "value", "great"]
def f_is_proth_paper : FS := (fSeq (fExp (fCall m_need_two_shape (fCons (fVar 0) (fCons (fVar 1) fNil)))) (fSeq (fSet 3 (fCall m_above_in (fCons (fVar 0) (fCons (fVar 1) fNil)))) (fRet (fAnd (fCall m_is_base_to (fCons (fVar 2) (fCons (fVar 3) fNil))) (fOp gEq (fCall m_half_in (fCons (fVar 2) (fCons (fVar 3) fNil))) (fOp gSub (fRd 3) (fC (.int 1))))))))
def m_is_proth_paper : MF := fun ds S => bodyR (f_is_proth_paper fuel (startE N_is_proth_paper ds) S)
def N_false_paper : List Str := ["front", "power", "great", "base"]
def wc1_false_paper : FT := (fNotT (fBool (fCall m_is_false_in (fCons (fVar 3) (fCons (fVar 2) fNil)))))
def wb1_false_paper : FS := (fSet 3 (fOp gAdd (fRd 3) (fC (.int 1))))
def f_false_paper : FS := (fSeq (fExp (fCall m_need_two_shape (fCons (fVar 0) (fCons (fVar 1) fNil)))) (fSeq (fPar2 2 3 (fCons (fCall m_above_in (fCons (fVar 0) (fCons (fVar 1) fNil))) (fCons (fC (.int 2)) fNil))) (fSeq (fIfS (fBool (fCall m_is_prime_above (fCons (fVar 2) fNil))) (fRet (fC .non)) fSkip) (fSeq (fWhile (wc1_false_paper) (wb1_false_paper)) (fRet (fVar 3))))))
def m_false_paper : MF := fun ds S => bodyR (f_false_paper fuel (startE N_false_paper ds) S)
def N_is_false_paper : List Str := ["front", "power", "value", "great"]
def f_is_false_paper : FS := (fSeq (fExp (fCall m_need_two_shape (fCons (fVar 0) (fCons (fVar 1) fNil)))) (fSeq (fSet 3 (fCall m_above_in (fCons (fVar 0) (fCons (fVar 1) fNil)))) (fRet (fAnd (fCall m_is_base_to (fCons (fVar 2) (fCons (fVar 3) fNil))) (fCall m_is_false_in (fCons (fVar 2) (fCons (fVar 3) fNil)))))))
def m_is_false_paper : MF := fun ds S => bodyR (f_is_false_paper fuel (startE N_is_false_paper ds) S)
def N_prime_fronts : List Str := ["power", "most", "able", "front"]
def lt1_prime_fronts : FT := (fBool (fCall m_fits_two_shape (fCons (fVar 3) (fCons (fVar 0) fNil))))
def le1_prime_fronts : FE := (fVar 3)
def lt2_prime_fronts : FT := (fBool (fCall m_is_prime_above (fCons (fCall m_above_in (fCons (fVar 3) (fCons (fVar 0) fNil))) fNil)))
def le2_prime_fronts : FE := (fVar 3)
def f_prime_fronts : FS := (fSeq (fExp (fCall m_need_whole (fCons (fVar 0) (fCons (fC (.int 1)) (fCons (fC (.int 120)) fNil))))) (fSeq (fExp (fCall m_need_whole (fCons (fVar 1) (fCons (fC (.int 1)) (fCons (fC (.int 400)) fNil))))) (fSeq (fSet 2 (fLc (fLift rng3? (fCons (fC (.int 1)) (fCons (fOp gAdd (fRd 1) (fC (.int 1))) (fCons (fC (.int 2)) fNil)))) (gN 3) (lt1_prime_fronts) (le1_prime_fronts) [3])) (fRet (fCB gTuple (fCons (fLc (fIt (fVar 2)) (gN 3) (lt2_prime_fronts) (le2_prime_fronts) [3]) fNil))))))
def m_prime_fronts : MF := fun ds S => bodyR (f_prime_fronts fuel (startE N_prime_fronts ds) S)
def N_fermat_in : List Str := ["order"]
def f_fermat_in : FS := (fRet (fCall m_above_in (fCons (fC (.int 1)) (fCons (fOp gShl (fC (.int 1)) (fRd 0)) fNil))))
def m_fermat_in : MF := fun ds S => bodyR (f_fermat_in fuel (startE N_fermat_in ds) S)
def N_need_order : List Str := ["value", "least"]
def f_need_order : FS := (fIfS (fNotT (fBool (fCall m_is_whole (fCons (fVar 0) (fCons (fVar 1) (fCons (fC (.int 7)) fNil)))))) (fRaise "InvalidNumber") fSkip)
def m_need_order : MF := fun ds S => bodyR (f_need_order fuel (startE N_need_order ds) S)
def N_least_divisor_by : List Str := ["number", "begin", "step", "most", "part"]
def fb1_least_divisor_by : FS := (fIfS (fBool (fOp gEq (fOp gMod (fRd 0) (fRd 4)) (fC (.int 0)))) (fRet (fVar 4)) fSkip)
def f_least_divisor_by : FS := (fSeq (fFor (fLift rng3? (fCons (fVar 1) (fCons (fOp gAdd (fCB gMin2 (fCons (fRd 3) (fCons (fOp gSub (fRd 0) (fC (.int 1))) fNil))) (fC (.int 1))) (fCons (fVar 2) fNil)))) (gN 4) (fb1_least_divisor_by)) (fRet (fC .non)))
def m_least_divisor_by : MF := fun ds S => bodyR (f_least_divisor_by fuel (startE N_least_divisor_by ds) S)
def N_fermat_number : List Str := ["order"]
def f_fermat_number : FS := (fSeq (fExp (fCall m_need_order (fCons (fVar 0) (fCons (fC (.int 0)) fNil)))) (fRet (fCall m_fermat_in (fCons (fVar 0) fNil))))
def m_fermat_number : MF := fun ds S => bodyR (f_fermat_number fuel (startE N_fermat_number ds) S)
def N_pepin_rest : List Str := ["order"]
def f_pepin_rest : FS := (fSeq (fExp (fCall m_need_order (fCons (fVar 0) (fCons (fC (.int 1)) fNil)))) (fRet (fCall m_half_in (fCons (fC (.int 3)) (fCons (fCall m_fermat_in (fCons (fVar 0) fNil)) fNil)))))
def m_pepin_rest : MF := fun ds S => bodyR (f_pepin_rest fuel (startE N_pepin_rest ds) S)
def N_is_fermat_prime : List Str := ["order"]
def f_is_fermat_prime : FS := (fSeq (fExp (fCall m_need_order (fCons (fVar 0) (fCons (fC (.int 0)) fNil)))) (fRet (fOr (fOp gEq (fRd 0) (fC (.int 0))) (fOp gEq (fCall m_half_in (fCons (fC (.int 3)) (fCons (fCall m_fermat_in (fCons (fVar 0) fNil)) fNil))) (fOp gSub (fCall m_fermat_in (fCons (fVar 0) fNil)) (fC (.int 1)))))))
def m_is_fermat_prime : MF := fun ds S => bodyR (f_is_fermat_prime fuel (startE N_is_fermat_prime ds) S)
def N_fermat_divisor : List Str := ["order", "most", "step"]
def f_fermat_divisor : FS := (fSeq (fExp (fCall m_need_order (fCons (fVar 0) (fCons (fC (.int 0)) fNil)))) (fSeq (fExp (fCall m_need_whole (fCons (fVar 1) (fCons (fC (.int 1)) (fCons (fC (.int 1000000)) fNil))))) (fSeq (fSet 2 (fOp gShl (fC (.int 2)) (fRd 0))) (fRet (fCall m_least_divisor_by (fCons (fCall m_fermat_in (fCons (fVar 0) fNil)) (fCons (fOp gAdd (fRd 2) (fC (.int 1))) (fCons (fVar 2) (fCons (fVar 1) fNil)))))))))
def m_fermat_divisor : MF := fun ds S => bodyR (f_fermat_divisor fuel (startE N_fermat_divisor ds) S)
def N_mersenne_in : List Str := ["prime"]
def f_mersenne_in : FS := (fRet (fOp gSub (fOp gShl (fC (.int 1)) (fRd 0)) (fC (.int 1))))
def m_mersenne_in : MF := fun ds S => bodyR (f_mersenne_in fuel (startE N_mersenne_in ds) S)
def N_chain_in : List Str := ["prime", "great", "found", "turn"]
def fb1_chain_in : FS := (fApp 2 (fOp gMod (fOp gSub (fOp gMul (fOp gIx (fRd 2) (fUn gNeg (fC (.int 1)))) (fOp gIx (fRd 2) (fUn gNeg (fC (.int 1))))) (fC (.int 2))) (fRd 1)))
def f_chain_in : FS := (fSeq (fPm2 1 2 (fmFz (fCall m_mersenne_in (fCons (fVar 0) fNil)) (fmOwn (fLst (fCons (fC (.int 4)) fNil)) fmNil))) (fSeq (fFor (fLift rng1? (fCons (fOp gSub (fRd 0) (fC (.int 2))) fNil)) (gN 3) (fb1_chain_in)) (fFrz 2 (fRet (fVar 2)))))
def m_chain_in : MF := fun ds S => bodyR (f_chain_in fuel (startE N_chain_in ds) S)
def N_need_chained : List Str := ["value"]
def f_need_chained : FS := (fIfS (fOrT (fNotT (fBool (fCall m_is_whole (fCons (fVar 0) (fCons (fC (.int 3)) (fCons (fC (.int 131)) fNil)))))) (fNotT (fBool (fCall m_is_prime_in (fCons (fVar 0) fNil))))) (fRaise "InvalidPrime") fSkip)
def m_need_chained : MF := fun ds S => bodyR (f_need_chained fuel (startE N_need_chained ds) S)
def N_mersenne_number : List Str := ["prime"]
def f_mersenne_number : FS := (fSeq (fExp (fCall m_need_chained (fCons (fVar 0) fNil))) (fRet (fCall m_mersenne_in (fCons (fVar 0) fNil))))
def m_mersenne_number : MF := fun ds S => bodyR (f_mersenne_number fuel (startE N_mersenne_number ds) S)
def N_lucas_chain : List Str := ["prime"]
def f_lucas_chain : FS := (fSeq (fExp (fCall m_need_chained (fCons (fVar 0) fNil))) (fRet (fCB gTuple (fCons (fCall m_chain_in (fCons (fVar 0) fNil)) fNil))))
def m_lucas_chain : MF := fun ds S => bodyR (f_lucas_chain fuel (startE N_lucas_chain ds) S)
def N_is_mersenne_prime : List Str := ["prime"]
def f_is_mersenne_prime : FS := (fSeq (fExp (fCall m_need_chained (fCons (fVar 0) fNil))) (fRet (fOp gEq (fOp gIx (fCall m_chain_in (fCons (fVar 0) fNil)) (fUn gNeg (fC (.int 1)))) (fC (.int 0)))))
def m_is_mersenne_prime : MF := fun ds S => bodyR (f_is_mersenne_prime fuel (startE N_is_mersenne_prime ds) S)
def N_mersenne_primes_to : List Str := ["most", "able", "prime"]
def lt1_mersenne_primes_to : FT := (fBool (fCall m_is_prime_in (fCons (fVar 2) fNil)))
def le1_mersenne_primes_to : FE := (fVar 2)
def lt2_mersenne_primes_to : FT := (fBool (fOp gEq (fOp gIx (fCall m_chain_in (fCons (fVar 2) fNil)) (fUn gNeg (fC (.int 1)))) (fC (.int 0))))
def le2_mersenne_primes_to : FE := (fVar 2)
def f_mersenne_primes_to : FS := (fSeq (fExp (fCall m_need_whole (fCons (fVar 0) (fCons (fC (.int 1)) (fCons (fC (.int 131)) fNil))))) (fSeq (fSet 1 (fLc (fLift rng3? (fCons (fC (.int 3)) (fCons (fOp gAdd (fRd 0) (fC (.int 1))) (fCons (fC (.int 2)) fNil)))) (gN 2) (lt1_mersenne_primes_to) (le1_mersenne_primes_to) [2])) (fRet (fCB gTuple (fCons (fLc (fIt (fVar 1)) (gN 2) (lt2_mersenne_primes_to) (le2_mersenne_primes_to) [2]) fNil)))))
def m_mersenne_primes_to : MF := fun ds S => bodyR (f_mersenne_primes_to fuel (startE N_mersenne_primes_to ds) S)
def N_mersenne_divisor : List Str := ["prime", "most"]
def f_mersenne_divisor : FS := (fSeq (fExp (fCall m_need_chained (fCons (fVar 0) fNil))) (fSeq (fExp (fCall m_need_whole (fCons (fVar 1) (fCons (fC (.int 1)) (fCons (fC (.int 1000000)) fNil))))) (fRet (fCall m_least_divisor_by (fCons (fCall m_mersenne_in (fCons (fVar 0) fNil)) (fCons (fOp gAdd (fOp gMul (fC (.int 2)) (fRd 0)) (fC (.int 1))) (fCons (fOp gMul (fC (.int 2)) (fRd 0)) (fCons (fVar 1) fNil))))))))
def m_mersenne_divisor : MF := fun ds S => bodyR (f_mersenne_divisor fuel (startE N_mersenne_divisor ds) S)
def N__law_cup : List Str := ["script", "cell"]
def f__law_cup : FS := (fSeq (fSet 1 (fCB gAbs (fCons (fOp gIx (fOp gAdd (fCB gList (fCons (fRd 0) fNil)) (fLst (fCons (fC (.int 0)) fNil))) (fC (.int 0))) fNil))) (fRetH (fLst (fCons (fIf (fBool (fOp gGe (fRd 1) (fOp gPow (fC (.int 10)) (fC (.int 18))))) (fOp gDiv (fRd 1) (fC (.int 73))) (fC (.int 0))) (fCons (fOp gAdd (fOp gMod (fCB gInt (fCons (fOp gAdd (fOp gMul (fRd 1) (fC (.int 283))) (fC (.int 3907))) fNil)) (fC (.int 2077503167))) (fC (.int 167))) fNil)))))
def m__law_cup : MF := fun ds S => bodyR (f__law_cup fuel (startE N__law_cup ds) S)
def N__law_roll : List Str := ["cup", "many", "found", "deep"]
def f__law_roll : FS := (fSeq (fIfS (fBool (fOp gGt (fIxH 0 0) (fC (.int 0)))) (fSeq (fSet 2 (fOp gMod (fCB gInt (fCons (fIxH 0 0) fNil)) (fRd 1))) (fSeq (fSetIxH 0 0 (fOp gDiv (fIxH 0 0) (fRd 1))) (fRet (fVar 2)))) fSkip) (fSeq (fSetIxH 0 1 (fOp gMod (fCB gInt (fCons (fOp gAdd (fOp gMul (fIxH 0 1) (fC (.int 31051))) (fC (.int 7993))) fNil)) (fC (.int 2147483543)))) (fSeq (fSet 3 (fOp gMod (fCB gInt (fCons (fOp gMul (fIxH 0 1) (fOp gAdd (fIxH 0 1) (fC (.int 229)))) fNil)) (fC (.int 2147483587)))) (fRet (fOp gMod (fCB gInt (fCons (fOp gDiv (fRd 3) (fC (.int 821))) fNil)) (fRd 1))))))
def m__law_roll : MF := fun ds S => bodyR (f__law_roll fuel (startE N__law_roll ds) S)
def N__law_some : List Str := ["cup", "things"]
def f__law_some : FS := (fRet (fOp gIx (fRd 1) (fCall m__law_roll (fCons (fVar 0) (fCons (fCB gLen (fCons (fRd 1) fNil)) fNil)))))
def m__law_some : MF := fun ds S => bodyR (f__law_some fuel (startE N__law_some ds) S)
def N__law_sort : List Str := ["value"]
def f__law_sort : FS := (fSeq (fIfS (fOrT (fBool (fOp gIs (fRd 0) (fC .non))) (fBool (fCB gIsi (fCons (fRd 0) (fCons (fC (.ty "bool")) fNil))))) (fRet (fIf (fBool (fOp gIs (fRd 0) (fC .non))) (fC (.int 0)) (fC (.int 1)))) fSkip) (fSeq (fIfS (fOrT (fBool (fCB gIsi (fCons (fRd 0) (fCons (fC (.ty "int")) fNil)))) (fBool (fCB gIsi (fCons (fRd 0) (fCons (fC (.ty "str")) fNil))))) (fRet (fIf (fBool (fCB gIsi (fCons (fRd 0) (fCons (fC (.ty "int")) fNil)))) (fC (.int 2)) (fC (.int 3)))) fSkip) (fRet (fIf (fBool (fCB gIsi (fCons (fRd 0) (fCons (fC (.ty "tuple")) fNil)))) (fC (.int 4)) (fIf (fBool (fCB gIsi (fCons (fRd 0) (fCons (fC (.ty "list")) fNil)))) (fC (.int 5)) (fC (.int 6)))))))
def m__law_sort : MF := fun ds S => bodyR (f__law_sort fuel (startE N__law_sort ds) S)
def N__law_like : List Str := ["one", "other", "sort", "first", "second"]
def lt1__law_like (mr : MF) : FT := (fNotT (fBool (fCall mr (fCons (fVar 3) (fCons (fVar 4) fNil)))))
def le1__law_like : FE := (fC (.int 1))
def f__law_like (mr : MF) : FS := (fSeq (fSet 2 (fCall m__law_sort (fCons (fVar 1) fNil))) (fSeq (fIfS (fOrT (fBool (fOp gNe (fCall m__law_sort (fCons (fVar 0) fNil)) (fRd 2))) (fBool (fOp gEq (fRd 2) (fC (.int 6))))) (fRet (fC (.bl false))) fSkip) (fSeq (fIfS (fBool (fOp gIn (fRd 2) (fTup (fCons (fC (.int 4)) (fCons (fC (.int 5)) fNil))))) (fRet (fAnd (fOp gEq (fCB gLen (fCons (fRd 0) fNil)) (fCB gLen (fCons (fRd 1) fNil))) (fOp gEq (fLc (fLift zip? (fCons (fVar 0) (fCons (fVar 1) fNil))) (gT (gConss (gN 3) (gConss (gN 4) gNils))) (lt1__law_like mr) (le1__law_like) [3, 4]) (fLst fNil)))) fSkip) (fRet (fOp gEq (fRd 0) (fRd 1))))))
def mk__law_like : Nat → MF
  | 0 => fun _ _ => .stk
  | k + 1 => fun ds S => bodyR (f__law_like (mk__law_like k) fuel (startE N__law_like ds) S)
def m__law_like : MF := mk__law_like 8
def N__law_power : List Str := ["one", "times", "number", "found", "here"]
def wc1__law_power : FT := (fBool (fOp gGt (fRd 1) (fC (.int 0))))
def wb1__law_power : FS := (fSeq (fSet 3 (fIf (fBool (fOp gEq (fOp gMod (fCB gInt (fCons (fRd 1) fNil)) (fC (.int 2))) (fC (.int 1)))) (fOp gMod (fCB gInt (fCons (fOp gMul (fRd 3) (fRd 4)) fNil)) (fRd 2)) (fVar 3))) (fPar2 4 1 (fCons (fOp gMod (fCB gInt (fCons (fOp gMul (fRd 4) (fRd 4)) fNil)) (fRd 2)) (fCons (fCB gInt (fCons (fOp gDiv (fRd 1) (fC (.int 2))) fNil)) fNil))))
def f__law_power : FS := (fSeq (fPar2 3 4 (fCons (fC (.int 1)) (fCons (fOp gMod (fCB gInt (fCons (fRd 0) fNil)) (fRd 2)) fNil))) (fSeq (fWhile (wc1__law_power) (wb1__law_power)) (fRet (fOp gMod (fCB gInt (fCons (fRd 3) fNil)) (fRd 2)))))
def m__law_power : MF := fun ds S => bodyR (f__law_power fuel (startE N__law_power ds) S)
def N__law_above : List Str := ["front", "power", "found", "turn"]
def fb1__law_above : FS := (fSet 2 (fOp gMul (fC (.int 2)) (fRd 2)))
def f__law_above : FS := (fSeq (fSet 2 (fVar 0)) (fSeq (fFor (fLift rng1? (fCons (fVar 1) fNil)) (gN 3) (fb1__law_above)) (fRet (fOp gAdd (fRd 2) (fC (.int 1))))))
def m__law_above : MF := fun ds S => bodyR (f__law_above fuel (startE N__law_above ds) S)
def N__law_sign : List Str := ["one", "odd", "sign", "top", "below"]
def wc1__law_sign : FT := (fBool (fOp gEq (fOp gMod (fCB gInt (fCons (fRd 3) fNil)) (fC (.int 2))) (fC (.int 0))))
def wb1__law_sign : FS := (fPar2 3 2 (fCons (fCB gInt (fCons (fOp gDiv (fRd 3) (fC (.int 2))) fNil)) (fCons (fIf (fBool (fOp gIn (fOp gMod (fCB gInt (fCons (fRd 4) fNil)) (fC (.int 8))) (fTup (fCons (fC (.int 3)) (fCons (fC (.int 5)) fNil))))) (fOp gSub (fC (.int 0)) (fRd 2)) (fVar 2)) fNil)))
def wc2__law_sign : FT := (fBool (fOp gNe (fRd 3) (fC (.int 0))))
def wb2__law_sign : FS := (fSeq (fWhile (wc1__law_sign) (wb1__law_sign)) (fSeq (fSet 2 (fIf (fAndT (fBool (fOp gEq (fOp gMod (fCB gInt (fCons (fRd 3) fNil)) (fC (.int 4))) (fC (.int 3)))) (fBool (fOp gEq (fOp gMod (fCB gInt (fCons (fRd 4) fNil)) (fC (.int 4))) (fC (.int 3))))) (fOp gSub (fC (.int 0)) (fRd 2)) (fVar 2))) (fPar2 3 4 (fCons (fOp gMod (fCB gInt (fCons (fRd 4) fNil)) (fRd 3)) (fCons (fVar 3) fNil)))))
def f__law_sign : FS := (fSeq (fPar3 2 3 4 (fCons (fC (.int 1)) (fCons (fOp gMod (fCB gInt (fCons (fRd 0) fNil)) (fRd 1)) (fCons (fVar 1) fNil)))) (fSeq (fWhile (wc2__law_sign) (wb2__law_sign)) (fRet (fIf (fBool (fOp gEq (fRd 4) (fC (.int 1)))) (fVar 2) (fC (.int 0))))))
def m__law_sign : MF := fun ds S => bodyR (f__law_sign fuel (startE N__law_sign ds) S)
def N__law_half : List Str := ["base", "great"]
def f__law_half : FS := (fRet (fCall m__law_power (fCons (fOp gMod (fCB gInt (fCons (fRd 0) fNil)) (fRd 1)) (fCons (fCB gInt (fCons (fOp gDiv (fOp gSub (fRd 1) (fC (.int 1))) (fC (.int 2))) fNil)) (fCons (fVar 1) fNil)))))
def m__law_half : MF := fun ds S => bodyR (f__law_half fuel (startE N__law_half ds) S)
def N__law_is_false : List Str := ["base", "great", "rest", "sign"]
def f__law_is_false : FS := (fSeq (fPar2 2 3 (fCons (fCall m__law_half (fCons (fVar 0) (fCons (fVar 1) fNil))) (fCons (fCall m__law_sign (fCons (fVar 0) (fCons (fVar 1) fNil))) fNil))) (fRet (fOp gNinX (fTup (fCons (fVar 2) (fCons (fVar 3) fNil))) (fTup (fCons (fTup (fCons (fC (.int 1)) (fCons (fC (.int 1)) fNil))) (fCons (fTup (fCons (fOp gSub (fRd 1) (fC (.int 1))) (fCons (fUn gNeg (fC (.int 1))) fNil))) fNil))))))
def m__law_is_false : MF := fun ds S => bodyR (f__law_is_false fuel (startE N__law_is_false ds) S)
def N__law_error : List Str := ["call", "error", "some", "word", "good"]
def cs__law_error : List (Str × Str) := [("InvalidNumber", "number"), ("InvalidShape", "shape"), ("InvalidBase", "base"), ("InvalidPrime", "prime")]
def tabL : FTab := [("number_above", 2, m_number_above), ("is_shape_prime", 2, m_is_shape_prime), ("proth_paper", 2, m_proth_paper), ("is_proth_paper", 3, m_is_proth_paper), ("false_paper", 2, m_false_paper), ("is_false_paper", 3, m_is_false_paper), ("fermat_number", 1, m_fermat_number), ("pepin_rest", 1, m_pepin_rest), ("is_fermat_prime", 1, m_is_fermat_prime), ("mersenne_number", 1, m_mersenne_number), ("lucas_chain", 1, m_lucas_chain), ("is_mersenne_prime", 1, m_is_mersenne_prime)]
def N__law_shapes_right : List Str := ["odd", "two", "three", "bads", "front", "power", "words", "bad", "call"]
def lamq__law_shapes_right : Str := ("_law_shapes_right" : Str) ++ ".<locals>." ++ "<lambda>"
def ll1__law_shapes_right : FE := (fCallV tabL 8 (fCons (fVar 4) (fCons (fVar 5) fNil)))
def le1__law_shapes_right : FE := (fLamW 0 "_law_shapes_right" lamq__law_shapes_right cs__law_error (ll1__law_shapes_right))
def ll2__law_shapes_right : FE := (fCallV tabL 8 (fCons (fVar 4) (fCons (fVar 5) (fCons (fVar 0) fNil))))
def le2__law_shapes_right : FE := (fLamW 0 "_law_shapes_right" lamq__law_shapes_right cs__law_error (ll2__law_shapes_right))
def fb1__law_shapes_right : FS := (fSeq (fSet 6 (fOp gAdd (fLc (fIt (fVar 1)) (gN 8) fYes (le1__law_shapes_right) [8]) (fLc (fIt (fVar 2)) (gN 8) fYes (le2__law_shapes_right) [8]))) (fIfS (fOrT (fBool (fOp gNe (fRd 6) (fOp gMul (fLst (fCons (fC (.str "shape")) fNil)) (fC (.int 6))))) (fBool (fOp gIsNB (fCall m_is_two_shape (fCons (fVar 4) (fCons (fVar 5) fNil))) (fC (.bl false))))) (fRet (fC (.bl false))) fSkip))
def ll3__law_shapes_right : FE := (fCall m_half_rest (fCons (fVar 7) (fCons (fVar 0) fNil)))
def le3__law_shapes_right : FE := (fLamW 0 "_law_shapes_right" lamq__law_shapes_right cs__law_error (ll3__law_shapes_right))
def ll4__law_shapes_right : FE := (fCall m_half_rest (fCons (fC (.int 2)) (fCons (fVar 7) fNil)))
def ll5__law_shapes_right : FE := (fCall m_shape_of (fCons (fVar 7) fNil))
def fb2__law_shapes_right : FS := (fSet 6 (fOp gAdd (fRd 6) (fLst (fCons (fLamW 0 "_law_shapes_right" lamq__law_shapes_right cs__law_error (ll5__law_shapes_right)) (fCons (fLamW 0 "_law_shapes_right" lamq__law_shapes_right cs__law_error (ll4__law_shapes_right)) fNil)))))
def f__law_shapes_right : FS := (fSeq (fPar2 1 2 (fCons (fLst (fCons (fC (.ref "number_above")) (fCons (fC (.ref "is_shape_prime")) (fCons (fC (.ref "proth_paper")) (fCons (fC (.ref "false_paper")) fNil))))) (fCons (fLst (fCons (fC (.ref "is_proth_paper")) (fCons (fC (.ref "is_false_paper")) fNil))) fNil))) (fSeq (fSet 3 (fLst (fCons (fTup (fCons (fC .non) (fCons (fC (.int 2)) fNil))) (fCons (fTup (fCons (fC (.int 3)) (fCons (fC .non) fNil))) (fCons (fTup (fCons (fC (.int 5)) (fCons (fC (.int 2)) fNil))) (fCons (fTup (fCons (fC (.int 4)) (fCons (fC (.int 3)) fNil))) (fCons (fTup (fCons (fC (.int 2)) (fCons (fC (.int 2)) fNil))) (fCons (fTup (fCons (fC (.int 0)) (fCons (fC (.int 3)) fNil))) (fCons (fTup (fCons (fUn gNeg (fC (.int 1))) (fCons (fC (.int 3)) fNil))) (fCons (fTup (fCons (fC (.int 3)) (fCons (fC (.int 0)) fNil))) (fCons (fTup (fCons (fC (.int 3)) (fCons (fUn gNeg (fC (.int 1))) fNil))) (fCons (fTup (fCons (fC (.bl true)) (fCons (fC (.int 2)) fNil))) (fCons (fTup (fCons (fC (.int 1)) (fCons (fC (.bl true)) fNil))) (fCons (fTup (fCons (fC (.str "3")) (fCons (fC (.int 2)) fNil))) (fCons (fTup (fCons (fC (.int 3)) (fCons (fC (.str "2")) fNil))) (fCons (fTup (fCons (fC (.int 1)) (fCons (fC (.int 133)) fNil))) (fCons (fTup (fCons (fC (.int 3)) (fCons (fC (.int 132)) fNil))) fNil))))))))))))))))) (fSeq (fFor (fIt (fOp gAdd (fRd 3) (fLst (fCons (fTup (fCons (fOp gAdd (fOp gPow (fC (.int 10)) (fC (.int 40))) (fC (.int 1))) (fCons (fC (.int 132)) fNil))) (fCons (fTup (fCons (fTup (fCons (fC (.int 3)) fNil)) (fCons (fC (.int 2)) fNil))) (fCons (fTup (fCons (fVar 0) (fCons (fC (.int 5)) fNil))) (fCons (fTup (fCons (fC (.int 5)) (fCons (fVar 0) fNil))) fNil))))))) (gT (gConss (gN 4) (gConss (gN 5) gNils))) (fb1__law_shapes_right)) (fSeq (fSet 6 (fLc (fIt (fTup (fCons (fC .non) (fCons (fOp gPow (fC (.int 10)) (fC (.int 60))) (fCons (fUn gNeg (fOp gPow (fC (.int 10)) (fC (.int 60)))) (fCons (fC (.bl true)) (fCons (fC (.str "2")) (fCons (fTup (fCons (fC (.int 2)) fNil)) fNil)))))))) (gN 7) fYes (le3__law_shapes_right) [7])) (fSeq (fIfS (fBool (fOp gNe (fRd 6) (fOp gMul (fLst (fCons (fC (.str "base")) fNil)) (fC (.int 6))))) (fRet (fC (.bl false))) fSkip) (fSeq (fSet 6 (fLst fNil)) (fSeq (fFor (fIt (fTup (fCons (fC .non) (fCons (fC (.int 1)) (fCons (fC (.int 2)) (fCons (fC (.int 4)) (fCons (fC (.int 0)) (fCons (fUn gNeg (fC (.int 3))) (fCons (fOp gPow (fC (.int 10)) (fC (.int 40))) (fCons (fOp gAdd (fOp gPow (fC (.int 10)) (fC (.int 40))) (fC (.int 1))) (fCons (fC (.bl true)) (fCons (fC (.str "3")) (fCons (fTup (fCons (fC (.int 3)) fNil)) fNil))))))))))))) (gN 7) (fb2__law_shapes_right)) (fRet (fOp gEq (fRd 6) (fOp gMul (fLst (fCons (fC (.str "number")) fNil)) (fC (.int 22))))))))))))
def m__law_shapes_right : MF := fun ds S => bodyR (f__law_shapes_right fuel (startE N__law_shapes_right ds) S)
def N__law_numbers_right : List Str := ["odd", "words", "bad", "call"]
def lamq__law_numbers_right : Str := ("_law_numbers_right" : Str) ++ ".<locals>." ++ "<lambda>"
def ll1__law_numbers_right : FE := (fCall m_prime_fronts (fCons (fVar 2) (fCons (fVar 0) fNil)))
def fb1__law_numbers_right : FS := (fApp 1 (fLamW 1 "_law_numbers_right" lamq__law_numbers_right cs__law_error (ll1__law_numbers_right)))
def ll2__law_numbers_right : FE := (fCall m_prime_fronts (fCons (fC (.int 5)) (fCons (fVar 2) fNil)))
def fb2__law_numbers_right : FS := (fApp 1 (fLamW 1 "_law_numbers_right" lamq__law_numbers_right cs__law_error (ll2__law_numbers_right)))
def ll3__law_numbers_right : FE := (fCallV tabL 3 (fCons (fVar 2) fNil))
def le1__law_numbers_right : FE := (fLamW 1 "_law_numbers_right" lamq__law_numbers_right cs__law_error (ll3__law_numbers_right))
def ll4__law_numbers_right : FE := (fCall m_fermat_divisor (fCons (fVar 2) (fCons (fVar 0) fNil)))
def fb3__law_numbers_right : FS := (fSeq (fSetO 1 (fOp gAddL (fRd 1) (fLc (fIt (fTup (fCons (fC (.ref "fermat_number")) (fCons (fC (.ref "pepin_rest")) (fCons (fC (.ref "is_fermat_prime")) fNil))))) (gN 3) fYes (le1__law_numbers_right) [3]))) (fApp 1 (fLamW 1 "_law_numbers_right" lamq__law_numbers_right cs__law_error (ll4__law_numbers_right))))
def ll5__law_numbers_right : FE := (fCall m_pepin_rest (fCons (fC (.int 0)) fNil))
def ll6__law_numbers_right : FE := (fCall m_mersenne_divisor (fCons (fC (.int 7)) (fCons (fVar 2) fNil)))
def ll7__law_numbers_right : FE := (fCall m_fermat_divisor (fCons (fC (.int 5)) (fCons (fVar 2) fNil)))
def fb4__law_numbers_right : FS := (fSetO 1 (fOp gAddL (fRd 1) (fLst (fCons (fLamW 1 "_law_numbers_right" lamq__law_numbers_right cs__law_error (ll7__law_numbers_right)) (fCons (fLamW 1 "_law_numbers_right" lamq__law_numbers_right cs__law_error (ll6__law_numbers_right)) fNil)))))
def ll8__law_numbers_right : FE := (fCall m_mersenne_primes_to (fCons (fVar 2) fNil))
def fb5__law_numbers_right : FS := (fApp 1 (fLamW 1 "_law_numbers_right" lamq__law_numbers_right cs__law_error (ll8__law_numbers_right)))
def ll9__law_numbers_right : FE := (fCallV tabL 3 (fCons (fVar 2) fNil))
def le2__law_numbers_right : FE := (fLamW 1 "_law_numbers_right" lamq__law_numbers_right cs__law_error (ll9__law_numbers_right))
def ll10__law_numbers_right : FE := (fCall m_mersenne_divisor (fCons (fVar 2) (fCons (fVar 0) fNil)))
def fb6__law_numbers_right : FS := (fSeq (fSetO 1 (fOp gAddL (fRd 1) (fLc (fIt (fTup (fCons (fC (.ref "mersenne_number")) (fCons (fC (.ref "lucas_chain")) (fCons (fC (.ref "is_mersenne_prime")) fNil))))) (gN 3) fYes (le2__law_numbers_right) [3]))) (fApp 1 (fLamW 1 "_law_numbers_right" lamq__law_numbers_right cs__law_error (ll10__law_numbers_right))))
def f__law_numbers_right : FS := (fSeq (fSetO 1 (fLst fNil)) (fSeq (fFor (fIt (fTup (fCons (fC .non) (fCons (fC (.int 0)) (fCons (fC (.int 121)) (fCons (fC (.bl true)) (fCons (fC (.str "5")) fNil))))))) (gN 2) (fb1__law_numbers_right)) (fSeq (fFor (fIt (fTup (fCons (fC .non) (fCons (fC (.int 0)) (fCons (fC (.int 401)) (fCons (fC (.bl true)) (fCons (fC (.str "5")) fNil))))))) (gN 2) (fb2__law_numbers_right)) (fSeq (fFor (fIt (fTup (fCons (fC .non) (fCons (fUn gNeg (fC (.int 1))) (fCons (fC (.int 8)) (fCons (fC (.bl true)) (fCons (fC (.str "1")) (fCons (fTup (fCons (fC (.int 1)) fNil)) fNil)))))))) (gN 2) (fb3__law_numbers_right)) (fSeq (fApp 1 (fLamW 1 "_law_numbers_right" lamq__law_numbers_right cs__law_error (ll5__law_numbers_right))) (fSeq (fFor (fIt (fTup (fCons (fC .non) (fCons (fC (.int 0)) (fCons (fOp gAdd (fOp gPow (fC (.int 10)) (fC (.int 6))) (fC (.int 1))) (fCons (fC (.bl true)) (fCons (fC (.str "1")) fNil))))))) (gN 2) (fb4__law_numbers_right)) (fSeq (fFor (fIt (fTup (fCons (fC .non) (fCons (fC (.int 0)) (fCons (fC (.int 132)) (fCons (fC (.bl true)) (fCons (fC (.str "7")) fNil))))))) (gN 2) (fb5__law_numbers_right)) (fSeq (fIfS (fBool (fOp gNe (fRd 1) (fOp gMul (fLst (fCons (fC (.str "number")) fNil)) (fC (.int 50))))) (fRet (fC (.bl false))) fSkip) (fSeq (fSetO 1 (fLst fNil)) (fSeq (fFor (fIt (fTup (fCons (fC .non) (fCons (fC (.int 2)) (fCons (fC (.int 1)) (fCons (fC (.int 9)) (fCons (fC (.int 137)) (fCons (fC (.int 0)) (fCons (fUn gNeg (fC (.int 3))) (fCons (fC (.bl true)) (fCons (fC (.str "7")) (fCons (fTup (fCons (fC (.int 7)) fNil)) fNil)))))))))))) (gN 2) (fb6__law_numbers_right)) (fRet (fOp gEq (fRd 1) (fOp gMul (fLst (fCons (fC (.str "prime")) fNil)) (fC (.int 40)))))))))))))))
def m__law_numbers_right : MF := fun ds S => bodyR (f__law_numbers_right fuel (startE N__law_numbers_right ds) S)
def N__law_great_right : List Str := ["cup", "power", "front", "great", "told", "paper", "false"]
def f__law_great_right : FS := (fSeq (fSet 1 (fOp gAdd (fC (.int 100)) (fCall m__law_roll (fCons (fVar 0) (fCons (fC (.int 20)) fNil))))) (fSeq (fSet 2 (fOp gAdd (fOp gMul (fC (.int 2)) (fCall m__law_roll (fCons (fVar 0) (fCons (fOp gPow (fC (.int 10)) (fC (.int 3))) fNil)))) (fC (.int 1)))) (fSeq (fSet 3 (fCall m__law_above (fCons (fVar 2) (fCons (fVar 1) fNil)))) (fSeq (fPar3 4 5 6 (fCons (fCall m_is_shape_prime (fCons (fVar 2) (fCons (fVar 1) fNil))) (fCons (fCall m_proth_paper (fCons (fVar 2) (fCons (fVar 1) fNil))) (fCons (fCall m_false_paper (fCons (fVar 2) (fCons (fVar 1) fNil))) fNil)))) (fSeq (fIfS (fNotT (fBool (fCall m__law_like (fCons (fLst (fCons (fCall m_number_above (fCons (fVar 2) (fCons (fVar 1) fNil))) (fCons (fOp gIsN (fRd 5) (fC .non)) (fCons (fOp gIs (fRd 6) (fC .non)) (fCons (fCall m_shape_of (fCons (fVar 3) fNil)) fNil))))) (fCons (fLst (fCons (fVar 3) (fCons (fVar 4) (fCons (fVar 4) (fCons (fTup (fCons (fVar 2) (fCons (fVar 1) fNil))) fNil))))) fNil))))) (fRet (fC (.bl false))) fSkip) (fSeq (fIfS (fOrT (fAndT (fBool (fOp gIsN (fRd 5) (fC .non))) (fBool (fOp gNe (fCall m__law_half (fCons (fVar 5) (fCons (fVar 3) fNil))) (fOp gSub (fRd 3) (fC (.int 1)))))) (fAndT (fBool (fOp gIsN (fRd 6) (fC .non))) (fNotT (fBool (fCall m__law_is_false (fCons (fVar 6) (fCons (fVar 3) fNil))))))) (fRet (fC (.bl false))) fSkip) (fSeq (fSet 4 (fLst (fCons (fOp gEq (fCall m_fermat_number (fCons (fC (.int 7)) fNil)) (fCall m__law_above (fCons (fC (.int 1)) (fCons (fC (.int 128)) fNil)))) (fCons (fOp gEq (fCall m_pepin_rest (fCons (fC (.int 7)) fNil)) (fOp gSub (fCall m_fermat_number (fCons (fC (.int 7)) fNil)) (fC (.int 1)))) (fCons (fOp gIx (fCall m_lucas_chain (fCons (fC (.int 127)) fNil)) (fUn gNeg (fC (.int 1)))) fNil))))) (fSeq (fSet 4 (fOp gAdd (fRd 4) (fLst (fCons (fOp gEq (fOp gIx (fCall m_lucas_chain (fCons (fC (.int 131)) fNil)) (fUn gNeg (fC (.int 1)))) (fC (.int 0))) (fCons (fCB gLen (fCons (fCall m_lucas_chain (fCons (fC (.int 131)) fNil)) fNil)) fNil))))) (fSeq (fIfS (fNotT (fBool (fCall m__law_like (fCons (fVar 4) (fCons (fLst (fCons (fC (.bl true)) (fCons (fC (.bl false)) (fCons (fC (.int 0)) (fCons (fC (.bl false)) (fCons (fC (.int 130)) fNil)))))) fNil))))) (fRet (fC (.bl false))) fSkip) (fSeq (fSet 4 (fLst (fCons (fOp gEq (fCall m_half_rest (fCons (fOp gSub (fOp gPow (fC (.int 10)) (fC (.int 60))) (fC (.int 1))) (fCons (fOp gSub (fOp gPow (fC (.int 10)) (fC (.int 40))) (fC (.int 1))) fNil))) (fCall m__law_half (fCons (fOp gSub (fOp gPow (fC (.int 10)) (fC (.int 60))) (fC (.int 1))) (fCons (fOp gSub (fOp gPow (fC (.int 10)) (fC (.int 40))) (fC (.int 1))) fNil)))) (fCons (fOp gIx (fCall m_mersenne_primes_to (fCons (fC (.int 131)) fNil)) (fUn gNeg (fC (.int 1)))) fNil)))) (fSeq (fSet 4 (fOp gAdd (fRd 4) (fLst (fCons (fCall m_mersenne_divisor (fCons (fC (.int 131)) (fCons (fC (.int 263)) fNil))) (fCons (fCall m_shape_of (fCons (fOp gSub (fOp gPow (fC (.int 10)) (fC (.int 40))) (fC (.int 1))) fNil)) fNil))))) (fRet (fCall m__law_like (fCons (fVar 4) (fCons (fLst (fCons (fC (.bl true)) (fCons (fC (.int 127)) (fCons (fC (.int 263)) (fCons (fC .non) fNil))))) fNil)))))))))))))))
def m__law_great_right : MF := fun ds S => bodyR (f__law_great_right fuel (startE N__law_great_right ds) S)
def N_law : List Str := ["script", "cup", "odd"]
def f_law : FS := (fSeq (fSet 1 (fCall m__law_cup (fCons (fVar 0) fNil))) (fSeq (fSet 2 (fCall m__law_some (fCons (fVar 1) (fCons (fLst (fCons (fC .non) (fCons (fC (.str "odd")) (fCons (fLst fNil) (fCons (fC (.bl true)) (fCons (fTup (fCons (fC .non) fNil)) (fCons (fUn gNeg (fC (.int 1))) fNil))))))) fNil)))) (fSeq (fIfS (fOrT (fNotT (fBool (fCall m__law_shapes_right (fCons (fVar 2) fNil)))) (fNotT (fBool (fCall m__law_numbers_right (fCons (fVar 2) fNil))))) (fRet (fC (.bl false))) fSkip) (fRet (fCall m__law_great_right (fCons (fVar 1) fNil))))))
def m_law : MF := fun ds S => bodyR (f_law fuel (startE N_law ds) S)
end LW

end

section
set_option autoImplicit false
set_option autoImplicit false
/-! plain number theory: primes, Lagrange's bound for roots -/
namespace NT
/-- no divisor but the trivial ones -/
def Pm (g : Int) : Prop := 2 ≤ g ∧ ∀ d, 2 ≤ d → d < g → ¬ d ∣ g
theorem Pm.euclid {g a b : Int} (h : Pm g) (hd : g ∣ a * b) : g ∣ a ∨ g ∣ b := by
  obtain ⟨h2, hp⟩ := h
  have hg : (Int.gcd g a : Int) ∣ g := Int.gcd_dvd_left ..
  have h0 : 0 < Int.gcd g a := Int.gcd_pos_of_ne_zero_left _ (by omega)
  have hle : (Int.gcd g a : Int) ≤ g := Int.le_of_dvd (by omega) hg
  by_cases e : (Int.gcd g a : Int) = g
  · left; rw [← e]; exact Int.gcd_dvd_right ..
  · by_cases e1 : Int.gcd g a = 1
    · right
      have q : g.natAbs ∣ a.natAbs * b.natAbs := by rw [← Int.natAbs_mul]; exact Int.natAbs_dvd_natAbs.mpr hd
      exact Int.natAbs_dvd_natAbs.mp (Nat.Coprime.dvd_of_dvd_mul_left (k := g.natAbs) (m := a.natAbs) e1 q)
    · exact absurd hg (hp _ (by omega) (by omega))
/-- the value of a row of coefficients -/
def ev : List Int → Int → Int
  | [], _ => 0
  | c :: l, x => c + x * ev l x
def dv (a : Int) : List Int → List Int
  | [] => []
  | [_] => []
  | _ :: c :: l => ev (c :: l) a :: dv a (c :: l)
theorem dv_ev (a x : Int) : ∀ l, ev l x - ev l a = (x - a) * ev (dv a l) x
  | [] => by simp [ev, dv]
  | [c] => by simp [ev, dv]
  | b :: c :: l => by
    have ih := dv_ev a x (c :: l)
    have e1 : ev (b :: c :: l) x = b + x * ev (c :: l) x := rfl
    have e2 : ev (b :: c :: l) a = b + a * ev (c :: l) a := rfl
    have e3 : ev (dv a (b :: c :: l)) x = ev (c :: l) a + x * ev (dv a (c :: l)) x := rfl
    rw [e1, e2, e3, Int.mul_add]
    have : (x - a) * (x * ev (dv a (c :: l)) x) = x * (ev (c :: l) x - ev (c :: l) a) := by rw [ih, Int.mul_left_comm]
    rw [this, Int.mul_sub, Int.sub_mul]
    omega
theorem dv_last (a : Int) : ∀ l (n : Nat), l.length = n + 2 → l.getLast? = some 1 → (dv a l).length = n + 1 ∧ (dv a l).getLast? = some 1
  | [], n, h, _ => by simp at h
  | [c], n, h, _ => by simp at h
  | [b, c], n, h, h2 => by
    simp at h h2; subst h; subst h2
    simp [dv, ev]
  | b :: c :: d :: l, n, h, h2 => by
    cases n with
    | zero => simp at h
    | succ n =>
      obtain ⟨h3, h4⟩ := dv_last a (c :: d :: l) n (by simpa using h) (by simpa using h2)
      simp only [dv] at h3 h4 ⊢
      refine ⟨by simpa using h3, ?_⟩
      rw [List.getLast?_cons_cons]; exact h4
/-- a row with 1 at its end has not more roots than steps -/
theorem roots_few {g : Int} (hp : Pm g) : ∀ (n : Nat) (l : List Int) (a : Int), l.length = n + 1 → l.getLast? = some 1 → (n : Int) < g → (∀ k : Nat, k ≤ n → g ∣ ev l (a + k)) → False
  | 0, l, a, h1, h2, h3, h4 => by
    match l, h1 with
    | [c], _ =>
      simp at h2; subst h2
      have := h4 0 (Nat.le_refl _)
      simp [ev] at this
      have := Int.le_of_dvd (by decide) this
      have := hp.1; omega
  | n + 1, l, a, h1, h2, h3, h4 => by
    obtain ⟨h5, h6⟩ := dv_last a l n h1 h2
    refine roots_few hp n (dv a l) (a + 1) h5 h6 (by omega) fun k hk => ?_
    have e1 := h4 (k + 1) (by omega)
    have e0 := h4 0 (by omega)
    simp at e0
    have e2 : (a + 1 + (k : Int)) = a + ((k + 1 : Nat) : Int) := by omega
    rw [e2]
    have e3 := dv_ev a (a + ((k + 1 : Nat) : Int)) l
    have e4 : g ∣ (a + ((k + 1 : Nat) : Int) - a) * ev (dv a l) (a + ((k + 1 : Nat) : Int)) := by
      rw [← e3]; exact Int.dvd_sub e1 e0
    rcases hp.euclid e4 with e | e
    · exfalso
      have := Int.le_of_dvd (by omega) e
      omega
    · exact e
theorem ev_rep (x : Int) : ∀ k : Nat, ev (List.replicate k 0 ++ [1]) x = x ^ k
  | 0 => by simp [ev]
  | k + 1 => by
    have : List.replicate (k + 1) (0 : Int) ++ [1] = 0 :: (List.replicate k 0 ++ [1]) := by rw [List.replicate_succ]; rfl
    rw [this]
    simp only [ev, ev_rep x k, Int.pow_succ]
    rw [Int.mul_comm]; omega
/-- not all of 1 .. h + 1 have a power 1 -/
theorem pow_one_few {g : Int} (hp : Pm g) {h : Nat} (h0 : 0 < h) (hg : (h : Int) < g) (ha : ∀ x : Int, 1 ≤ x → x ≤ h + 1 → g ∣ x ^ h - 1) : False := by
  obtain ⟨k, rfl⟩ : ∃ k, h = k + 1 := ⟨h - 1, by omega⟩
  refine roots_few hp (k + 1) (-1 :: (List.replicate k 0 ++ [1])) 1 (by simp) ?_ hg fun j hj => ?_
  · rw [List.getLast?_cons]; simp
  · have := ha (1 + j) (by omega) (by omega)
    simp only [ev, ev_rep]
    rw [Int.pow_succ, Int.mul_comm] at this
    have e : -1 + (1 + (j : Int)) * (1 + (j : Int)) ^ k = (1 + (j : Int)) * (1 + (j : Int)) ^ k - 1 := by omega
    rw [e]; exact this
end NT

end

section
set_option autoImplicit false
set_option autoImplicit false
namespace NT
theorem emod_dvd_sub {g x r : Int} (h : x % g = r) : g ∣ x - r := by
  rw [← h]; exact Int.dvd_self_sub_emod
/-- if no base tells that g is no prime, the first base with another sign is a paper -/
theorem no_false {g : Int} {h : Nat} {s : Int → Int} (h5 : 5 ≤ g) (hh : (h : Int) = g / 2) (ho : g % 2 = 1)
    (ha : ∀ b, 2 ≤ b → b < g → (b ^ h % g = 1 ∧ s b = 1) ∨ (b ^ h % g = g - 1 ∧ s b = -1)) {b0 : Int} (h1 : 2 ≤ b0) (h2 : b0 ≤ g) (h3 : s b0 ≠ 1) (h4 : ∀ x, 2 ≤ x → x < b0 → s x = 1) :
    Pm g ∧ b0 ^ h % g = g - 1 := by
  have hp : Pm g := by
    refine ⟨by omega, fun d d1 d2 d3 => ?_⟩
    have e : d ∣ d ^ h := by
      obtain ⟨k, rfl⟩ : ∃ k, h = k + 1 := ⟨h - 1, by omega⟩
      rw [Int.pow_succ]; exact Int.dvd_mul_left ..
    have e2 : d ∣ d ^ h % g := by
      rw [Int.emod_def]
      exact Int.dvd_sub e (Int.dvd_trans d3 (Int.dvd_mul_right ..))
    have e3 : d ∣ 1 := by
      rcases ha d d1 d2 with ⟨q, _⟩ | ⟨q, _⟩
      · rw [q] at e2; exact e2
      · rw [q] at e2
        have := Int.dvd_sub d3 e2
        have x : g - (g - 1) = 1 := by omega
        rw [x] at this; exact this
    have := Int.le_of_dvd (by decide) e3
    omega
  refine ⟨hp, ?_⟩
  rcases Int.lt_or_le b0 g with c | c
  · rcases ha b0 h1 c with ⟨q, r⟩ | ⟨q, r⟩
    · exact absurd r h3
    · exact q
  · exfalso
    have e : b0 = g := by omega
    subst e
    refine pow_one_few hp (h := h) (by omega) (by omega) fun x x1 x2 => ?_
    by_cases c1 : x = 1
    · subst c1; rw [Int.one_pow]; exact ⟨0, by omega⟩
    · rcases ha x (by omega) (by omega) with ⟨q, r⟩ | ⟨q, r⟩
      · exact emod_dvd_sub q
      · rw [h4 x (by omega) (by omega)] at r; cases r
end NT

end

section
set_option autoImplicit false
set_option autoImplicit false
namespace NT
/-- no divisor from d on up to the root -/
def tri (n : Int) : Nat → Int → Bool
  | 0, _ => true
  | k + 1, d => if d * d ≤ n then (if n % d = 0 then false else tri n k (d + 1)) else true
theorem tri_spec {n : Int} : ∀ (k : Nat) (d : Int), 1 ≤ d → n < (d + k) * (d + k) → (tri n k d = true ↔ ∀ x, d ≤ x → x * x ≤ n → ¬ x ∣ n)
  | 0, d, h1, h2 => by
    simp only [tri, true_iff]
    intro x x1 x2
    have : d * d ≤ x * x := Int.mul_le_mul x1 x1 (by omega) (by omega)
    simp at h2; omega
  | k + 1, d, h1, h2 => by
    have e : (d + ((k + 1 : Nat) : Int)) = d + 1 + k := by omega
    rw [e] at h2
    have ih := tri_spec k (d + 1) (by omega) h2
    unfold tri
    by_cases c : d * d ≤ n
    · rw [if_pos c]
      by_cases c2 : n % d = 0
      · rw [if_pos c2]
        constructor
        · intro z; cases z
        · intro z; exact absurd (Int.dvd_of_emod_eq_zero c2) (z d (Int.le_refl _) c)
      · rw [if_neg c2, ih]
        constructor
        · intro z x x1 x2
          by_cases e : x = d
          · subst e; exact fun w => c2 (Int.emod_eq_zero_of_dvd w)
          · exact z x (by omega) x2
        · intro z x x1 x2; exact z x (by omega) x2
    · rw [if_neg c]
      simp only [true_iff]
      intro x x1 x2
      have : d * d ≤ x * x := Int.mul_le_mul x1 x1 (by omega) (by omega)
      omega
theorem Pm_iff {n : Int} (h : 2 ≤ n) : Pm n ↔ ∀ x, 2 ≤ x → x * x ≤ n → ¬ x ∣ n := by
  constructor
  · intro hp x x1 x2
    have : x * 2 ≤ x * x := Int.mul_le_mul_of_nonneg_left x1 (by omega)
    exact hp.2 x x1 (by omega)
  · intro hx
    refine ⟨h, fun d d1 d2 d3 => ?_⟩
    obtain ⟨e, he⟩ := d3
    have e0 : 0 < e := by
      rcases Int.lt_or_le 0 e with w | w
      · exact w
      · have : d * e ≤ 0 := Int.mul_nonpos_of_nonneg_of_nonpos (by omega) w
        omega
    have e1 : e ≠ 1 := fun z => by subst z; omega
    rcases Int.le_total d e with w | w
    · have : d * d ≤ d * e := Int.mul_le_mul_of_nonneg_left w (by omega)
      exact hx d d1 (by omega) ⟨e, he⟩
    · have : e * e ≤ d * e := Int.mul_le_mul_of_nonneg_right w (by omega)
      exact hx e (by omega) (by omega) ⟨d, by rw [Int.mul_comm]; exact he⟩
noncomputable def pmb (n : Int) : Bool := @decide (Pm n) (Classical.propDecidable _)
theorem pmb_iff {n : Int} : pmb n = true ↔ Pm n := by unfold pmb; exact @decide_eq_true_iff _ (Classical.propDecidable _)
theorem pmb_small {n : Int} (h : n < 2) : pmb n = false := by
  cases e : pmb n with
  | false => rfl
  | true => have := (pmb_iff.mp e).1; omega
theorem pmb_tri {n : Int} {k : Nat} (h : 2 ≤ n) (hk : n < (2 + (k : Int)) * (2 + k)) : pmb n = tri n k 2 := by
  have := (tri_spec (n := n) k 2 (by decide) hk).trans (Pm_iff h).symm
  cases e : tri n k 2 with
  | true => exact pmb_iff.mpr (this.mp e)
  | false =>
    cases e2 : pmb n with
    | false => rfl
    | true => rw [this.mpr (pmb_iff.mp e2)] at e; cases e
end NT

end

section
set_option autoImplicit false
set_option autoImplicit false
/-! sums and products over rows, rows that are the same but for their order -/
namespace NT
def sm {α : Type} (l : List α) (f : α → Int) : Int := match l with
  | [] => 0
  | a :: l => f a + sm l f
def pr {α : Type} (l : List α) (f : α → Int) : Int := match l with
  | [] => 1
  | a :: l => f a * pr l f
section
variable {α β : Type}
theorem sm_congr {f g : α → Int} : ∀ {l : List α}, (∀ a ∈ l, f a = g a) → sm l f = sm l g
  | [], _ => rfl
  | a :: l, h => by
    simp only [sm]
    rw [h a (List.mem_cons_self ..), sm_congr fun x hx => h x (List.mem_cons_of_mem _ hx)]
theorem pr_congr {f g : α → Int} : ∀ {l : List α}, (∀ a ∈ l, f a = g a) → pr l f = pr l g
  | [], _ => rfl
  | a :: l, h => by
    simp only [pr]
    rw [h a (List.mem_cons_self ..), pr_congr fun x hx => h x (List.mem_cons_of_mem _ hx)]
theorem sm_add {f g : α → Int} : ∀ {l : List α}, sm l (fun a => f a + g a) = sm l f + sm l g
  | [] => rfl
  | a :: l => by simp only [sm, sm_add (l := l)]; omega
theorem sm_mul {c : Int} {f : α → Int} : ∀ {l : List α}, sm l (fun a => c * f a) = c * sm l f
  | [] => by simp [sm]
  | a :: l => by simp only [sm, sm_mul (l := l), Int.mul_add]
theorem sm_const {c : Int} : ∀ {l : List α}, sm l (fun _ => c) = c * l.length
  | [] => by simp [sm]
  | a :: l => by
    simp only [sm, sm_const (l := l), List.length_cons]
    push_cast
    rw [Int.mul_add]; omega
theorem pr_mul {f g : α → Int} : ∀ {l : List α}, pr l (fun a => f a * g a) = pr l f * pr l g
  | [] => rfl
  | a :: l => by
    simp only [pr, pr_mul (l := l)]
    rw [Int.mul_assoc, Int.mul_assoc, Int.mul_left_comm (g a)]
theorem pr_const {c : Int} : ∀ {l : List α}, pr l (fun _ => c) = c ^ l.length
  | [] => by simp [pr]
  | a :: l => by simp only [pr, pr_const (l := l), List.length_cons, Int.pow_succ]; rw [Int.mul_comm]
theorem sm_map {f : β → Int} {s : α → β} : ∀ {l : List α}, sm (l.map s) f = sm l (fun a => f (s a))
  | [] => rfl
  | a :: l => by simp only [List.map_cons, sm, sm_map (l := l)]
theorem pr_map {f : β → Int} {s : α → β} : ∀ {l : List α}, pr (l.map s) f = pr l (fun a => f (s a))
  | [] => rfl
  | a :: l => by simp only [List.map_cons, pr, pr_map (l := l)]
theorem sm_swap {f : α → β → Int} : ∀ {l : List α} {m : List β}, sm l (fun a => sm m fun b => f a b) = sm m fun b => sm l fun a => f a b
  | [], m => by simp only [sm]; rw [sm_const]; simp
  | a :: l, m => by simp only [sm, sm_swap (l := l)]; rw [sm_add]
theorem sm_perm {f : α → Int} {l m : List α} (h : l.Perm m) : sm l f = sm m f := by
  induction h with
  | nil => rfl
  | cons x _ ih => simp only [sm, ih]
  | swap x y l => simp only [sm]; omega
  | trans _ _ h1 h2 => rw [h1, h2]
theorem pr_perm {f : α → Int} {l m : List α} (h : l.Perm m) : pr l f = pr m f := by
  induction h with
  | nil => rfl
  | cons x _ ih => simp only [pr, ih]
  | swap x y l => simp only [pr]; rw [Int.mul_left_comm]
  | trans _ _ h1 h2 => rw [h1, h2]
/-- without duplicates, among others, as many: the same ones -/
theorem perm_of_sub [BEq α] [LawfulBEq α] : ∀ {l m : List α}, l.Nodup → (∀ a ∈ l, a ∈ m) → m.length ≤ l.length → l.Perm m
  | [], m, _, _, h => by
    have : m = [] := List.length_eq_zero_iff.mp (by simpa using h)
    subst this; exact .nil
  | a :: l, m, hn, hs, hl => by
    rw [List.nodup_cons] at hn
    have ha := hs a (List.mem_cons_self ..)
    have hp := List.perm_cons_erase ha
    refine .trans ?_ hp.symm
    refine .cons a (perm_of_sub hn.2 (fun x hx => ?_) ?_)
    · have hne : x ≠ a := fun z => hn.1 (z ▸ hx)
      exact (List.mem_erase_of_ne hne).mpr (hs x (List.mem_cons_of_mem _ hx))
    · have := hp.length_eq
      simp at this hl; omega
theorem nodup_map {s : α → β} : ∀ {l : List α}, l.Nodup → (∀ a ∈ l, ∀ b ∈ l, s a = s b → a = b) → (l.map s).Nodup
  | [], _, _ => List.nodup_nil
  | a :: l, hn, hi => by
    rw [List.nodup_cons] at hn
    rw [List.map_cons, List.nodup_cons]
    refine ⟨fun h => ?_, nodup_map hn.2 fun x hx y hy => hi x (List.mem_cons_of_mem _ hx) y (List.mem_cons_of_mem _ hy)⟩
    obtain ⟨x, hx, e⟩ := List.mem_map.mp h
    have := hi x (List.mem_cons_of_mem _ hx) a (List.mem_cons_self ..) e
    exact hn.1 (this ▸ hx)
/-- a map of a row into itself, never two to one -/
theorem perm_self [BEq α] [LawfulBEq α] {s : α → α} {l : List α} (hn : l.Nodup) (hm : ∀ a ∈ l, s a ∈ l) (hi : ∀ a ∈ l, ∀ b ∈ l, s a = s b → a = b) : (l.map s).Perm l :=
  perm_of_sub (nodup_map hn hi) (fun a ha => by obtain ⟨x, hx, rfl⟩ := List.mem_map.mp ha; exact hm x hx) (by simp)
/-- products, by a number -/
theorem pr_mod {n : Int} {f g : α → Int} : ∀ {l : List α}, (∀ a ∈ l, f a % n = g a % n) → pr l f % n = pr l g % n
  | [], _ => rfl
  | a :: l, h => by
    simp only [pr]
    rw [Int.mul_emod, h a (List.mem_cons_self ..), pr_mod fun x hx => h x (List.mem_cons_of_mem _ hx), ← Int.mul_emod]
end
/-- 1 .. h -/
def seg : Nat → List Int
  | 0 => []
  | h + 1 => ((h : Int) + 1) :: seg h
theorem mem_seg {x : Int} : ∀ {h : Nat}, x ∈ seg h ↔ 1 ≤ x ∧ x ≤ h
  | 0 => by simp [seg]; omega
  | h + 1 => by
    simp only [seg, List.mem_cons, mem_seg (h := h)]
    push_cast; omega
theorem seg_len : ∀ h : Nat, (seg h).length = h
  | 0 => rfl
  | h + 1 => by simp [seg, seg_len h]
theorem seg_nodup : ∀ h : Nat, (seg h).Nodup
  | 0 => List.nodup_nil
  | h + 1 => by
    rw [seg, List.nodup_cons]
    refine ⟨fun z => ?_, seg_nodup h⟩
    have := mem_seg.mp z
    omega
/-- how many of 1 .. h are at most t -/
theorem count_le {t : Int} : ∀ {h : Nat}, 0 ≤ t → t ≤ h → sm (seg h) (fun j => if j ≤ t then 1 else 0) = t
  | 0, h0, h1 => by simp [seg, sm]; omega
  | h + 1, h0, h1 => by
    simp only [seg, sm]
    by_cases c : t ≤ h
    · rw [count_le h0 c, if_neg (by omega)]; omega
    · have e : t = (h : Int) + 1 := by push_cast at h1; omega
      rw [if_pos (by omega)]
      have : sm (seg h) (fun j => if j ≤ t then 1 else 0) = sm (seg h) (fun _ => 1) := sm_congr fun a ha => by
        have := mem_seg.mp ha
        rw [if_pos (by omega)]
      rw [this, sm_const, seg_len]; omega
end NT

end

section
set_option autoImplicit false
set_option autoImplicit false
/-! signs by turned rests (Gauss, Schering), for any odd number; reciprocity (Eisenstein) -/
namespace NT
theorem cop_dvd {n a x : Int} (hc : Int.gcd a n = 1) (h : n ∣ a * x) : n ∣ x := by
  have q : n.natAbs ∣ a.natAbs * x.natAbs := by rw [← Int.natAbs_mul]; exact Int.natAbs_dvd_natAbs.mpr h
  have hc' : Nat.Coprime n.natAbs a.natAbs := by
    have := hc; unfold Int.gcd at this; exact (Nat.gcd_comm _ _).trans this
  exact Int.natAbs_dvd_natAbs.mp (Nat.Coprime.dvd_of_dvd_mul_left hc' q)
theorem not_dvd_small {n x : Int} (h1 : 1 ≤ x) (h2 : x < n) : ¬ n ∣ x := fun h => by
  have := Int.le_of_dvd (by omega) h; omega
def up (a n k : Int) : Bool := decide (n < 2 * (a * k % n))
def red (a n k : Int) : Int := if up a n k = true then n - a * k % n else a * k % n
def ep (a n k : Int) : Int := if up a n k = true then -1 else 1
section
variable {a b n : Int} {h : Nat}
theorem red_mem (hn : n = 2 * h + 1) (hc : Int.gcd a n = 1) {k : Int} (hk : k ∈ seg h) : red a n k ∈ seg h := by
  rw [mem_seg] at hk ⊢
  have h1 := Int.emod_nonneg (a * k) (by omega : n ≠ 0)
  have h2 := Int.emod_lt_of_pos (a * k) (by omega : 0 < n)
  have h3 : a * k % n ≠ 0 := fun z => not_dvd_small hk.1 (by omega) (cop_dvd hc (Int.dvd_of_emod_eq_zero z))
  unfold red up
  by_cases c : n < 2 * (a * k % n)
  · simp only [c, decide_true, if_true]; omega
  · simp only [c, decide_false]; simp; omega
theorem ep_red (hn : 0 < n) (k : Int) : a * k % n = ep a n k * red a n k % n := by
  have h1 := Int.emod_nonneg (a * k) (by omega : n ≠ 0)
  unfold ep red
  cases c : up a n k with
  | false => simp
  | true =>
    simp only [if_true]
    have : -1 * (n - a * k % n) = a * k % n + n * (-1) := by omega
    rw [this, Int.add_mul_emod_self_left]; simp
theorem red_ep (hn : 0 < n) (k : Int) : red a n k % n = ep a n k * (a * k) % n := by
  unfold ep red
  cases c : up a n k with
  | false => simp
  | true =>
    simp only [if_true]
    rw [Int.emod_eq_emod_iff_emod_sub_eq_zero]
    have e : n - a * k % n - -1 * (a * k) = n + (a * k - a * k % n) := by omega
    rw [e]
    have : n ∣ a * k - a * k % n := Int.dvd_self_sub_emod
    exact Int.emod_eq_zero_of_dvd (Int.dvd_add (Int.dvd_refl n) this)
theorem ep_cases (a n k : Int) : ep a n k = 1 ∨ ep a n k = -1 := by unfold ep; split <;> simp
theorem red_inj (hn : n = 2 * h + 1) (hc : Int.gcd a n = 1) {k l : Int} (hk : k ∈ seg h) (hl : l ∈ seg h) (e : red a n k = red a n l) : k = l := by
  rw [mem_seg] at hk hl
  have h0 : 0 < n := by omega
  have e1 : ep a n k * (a * k) % n = ep a n l * (a * l) % n := by rw [← red_ep h0, ← red_ep h0, e]
  have e2 : n ∣ ep a n k * (a * k) - ep a n l * (a * l) := Int.dvd_of_emod_eq_zero (Int.emod_eq_emod_iff_emod_sub_eq_zero.mp e1)
  have key : n ∣ a * (ep a n k * k - ep a n l * l) := by
    rw [Int.mul_sub, Int.mul_left_comm, Int.mul_left_comm a (ep a n l)]; exact e2
  have key := cop_dvd hc key
  rcases ep_cases a n k with x | x <;> rcases ep_cases a n l with y | y <;> rw [x, y] at key
  · rcases Int.lt_trichotomy k l with z | z | z
    · have : n ∣ l - k := by have := Int.dvd_neg.mpr key; have e : -(1 * k - 1 * l) = l - k := by omega
                             rw [e] at this; exact this
      exact absurd this (not_dvd_small (by omega) (by omega))
    · exact z
    · have : n ∣ k - l := by have e : 1 * k - 1 * l = k - l := by omega
                             rw [e] at key; exact key
      exact absurd this (not_dvd_small (by omega) (by omega))
  · have : n ∣ k + l := by have e : 1 * k - -1 * l = k + l := by omega
                           rw [e] at key; exact key
    exact absurd this (not_dvd_small (by omega) (by omega))
  · have : n ∣ k + l := by have := Int.dvd_neg.mpr key; have e : -(-1 * k - 1 * l) = k + l := by omega
                           rw [e] at this; exact this
    exact absurd this (not_dvd_small (by omega) (by omega))
  · rcases Int.lt_trichotomy k l with z | z | z
    · have : n ∣ l - k := by have e : -1 * k - -1 * l = l - k := by omega
                             rw [e] at key; exact key
      exact absurd this (not_dvd_small (by omega) (by omega))
    · exact z
    · have : n ∣ k - l := by have := Int.dvd_neg.mpr key; have e : -(-1 * k - -1 * l) = k - l := by omega
                             rw [e] at this; exact this
      exact absurd this (not_dvd_small (by omega) (by omega))
theorem red_perm (hn : n = 2 * h + 1) (hc : Int.gcd a n = 1) : ((seg h).map (red a n)).Perm (seg h) :=
  perm_self (seg_nodup h) (fun _ hk => red_mem hn hc hk) fun _ hk _ hl e => red_inj hn hc hk hl e
/-- the sign -/
def J (a n : Int) : Int := if Int.gcd a n = 1 then pr (seg (n / 2).toNat) (ep a n) else 0
theorem half_of (hn : n = 2 * h + 1) : (n / 2).toNat = h := by omega
theorem J_of (hn : n = 2 * h + 1) (hc : Int.gcd a n = 1) : J a n = pr (seg h) (ep a n) := by
  unfold J; rw [if_pos hc, half_of hn]
/-- Gauss -/
theorem gauss (hn : n = 2 * h + 1) (hc : Int.gcd a n = 1) : a ^ h * pr (seg h) (fun k => k) % n = J a n * pr (seg h) (fun k => k) % n := by
  have h0 : 0 < n := by omega
  have e1 : a ^ h * pr (seg h) (fun k => k) = pr (seg h) (fun k => a * k) := by rw [pr_mul, pr_const, seg_len]
  rw [e1, J_of hn hc, pr_mod (g := fun k => ep a n k * red a n k) fun k _ => ep_red h0 k, pr_mul]
  congr 2
  rw [← pr_map (f := fun k => k) (s := red a n), pr_perm (red_perm hn hc)]
theorem J_unit (a n : Int) : J a n = 0 ∨ J a n = 1 ∨ J a n = -1 := by
  unfold J
  split
  · right
    have : ∀ l : List Int, pr l (ep a n) = 1 ∨ pr l (ep a n) = -1 := by
      intro l
      induction l with
      | nil => left; rfl
      | cons x l ih =>
        simp only [pr]
        rcases ep_cases a n x with e | e <;> rcases ih with g | g <;> rw [e, g] <;> simp
    exact this _
  · left; rfl
theorem J_mod (a n : Int) : J (a % n) n = J a n := by
  have g : Int.gcd (a % n) n = Int.gcd a n := by rw [Int.emod_def, Int.gcd_sub_mul_left_left]
  unfold J
  rw [g]
  congr 1
  apply pr_congr
  intro k _
  unfold ep up
  have : a % n * k % n = a * k % n := by rw [Int.mul_emod, Int.emod_emod, ← Int.mul_emod]
  rw [this]
theorem gcd_mul_one {a b n : Int} (ha : Int.gcd a n = 1) (hb : Int.gcd b n = 1) : Int.gcd (a * b) n = 1 := by
  unfold Int.gcd at *
  rw [Int.natAbs_mul]
  exact Nat.Coprime.mul_left ha hb
theorem gcd_of_mul {a b n : Int} (h : Int.gcd (a * b) n = 1) : Int.gcd a n = 1 ∧ Int.gcd b n = 1 := by
  unfold Int.gcd at *
  rw [Int.natAbs_mul] at h
  exact ⟨Nat.Coprime.coprime_mul_right h, Nat.Coprime.coprime_mul_left h⟩
theorem up_neg (hn : n = 2 * h + 1) {x y : Int} (hx : ¬ n ∣ x) (e : y % n = (-1 * x) % n) : (decide (n < 2 * (y % n))) = !decide (n < 2 * (x % n)) := by
  have h1 := Int.emod_nonneg x (by omega : n ≠ 0)
  have h2 := Int.emod_lt_of_pos x (by omega : 0 < n)
  have h3 : x % n ≠ 0 := fun z => hx (Int.dvd_of_emod_eq_zero z)
  have e2 : y % n = n - x % n := by
    rw [e]
    have : -1 * x = (n - x % n) + n * (-1 - x / n) := by
      have := Int.mul_ediv_add_emod x n
      rw [Int.mul_sub]; omega
    rw [this, Int.add_mul_emod_self_left]
    exact Int.emod_eq_of_lt (by omega) (by omega)
  rw [e2]
  by_cases c : n < 2 * (x % n)
  · have : ¬ n < 2 * (n - x % n) := by omega
    simp [c, this]
  · have : n < 2 * (n - x % n) := by omega
    simp [c, this]
theorem ep_mul (hn : n = 2 * h + 1) (ha : Int.gcd a n = 1) (hb : Int.gcd b n = 1) {k : Int} (hk : k ∈ seg h) : ep (a * b) n k = ep a n (red b n k) * ep b n k := by
  have h0 : 0 < n := by omega
  have hr := mem_seg.mp (red_mem hn hb hk)
  have e1 := ep_red (a := b) h0 k
  have e2 : a * b * k % n = a * (ep b n k * red b n k) % n := by
    rw [Int.mul_assoc, Int.mul_emod, e1, ← Int.mul_emod]
  rcases ep_cases b n k with x | x
  · rw [x] at e2 ⊢
    rw [Int.one_mul] at e2
    unfold ep up
    rw [e2]; simp
  · rw [x] at e2 ⊢
    have hd : ¬ n ∣ a * red b n k := fun z => not_dvd_small hr.1 (by omega) (cop_dvd ha z)
    have e3 : a * b * k % n = (-1 * (a * red b n k)) % n := by rw [e2, Int.mul_left_comm]
    have := up_neg hn hd e3
    unfold ep up
    rw [this]
    cases decide (n < 2 * (a * red b n k % n)) <;> simp
theorem J_mul (hn : n = 2 * h + 1) : J (a * b) n = J a n * J b n := by
  by_cases hab : Int.gcd (a * b) n = 1
  · obtain ⟨ha, hb⟩ := gcd_of_mul hab
    rw [J_of hn hab, J_of hn ha, J_of hn hb, pr_congr fun k hk => ep_mul hn ha hb hk, pr_mul]
    congr 1
    rw [← pr_map (f := ep a n) (s := red b n), pr_perm (red_perm hn hb)]
  · have : J (a * b) n = 0 := by unfold J; rw [if_neg hab]
    rw [this]
    by_cases ha : Int.gcd a n = 1
    · have hb : Int.gcd b n ≠ 1 := fun hb => hab (gcd_mul_one ha hb)
      have : J b n = 0 := by unfold J; rw [if_neg hb]
      rw [this]; simp
    · have : J a n = 0 := by unfold J; rw [if_neg ha]
      rw [this]; simp
/-! ### two -/
theorem pr_two {t : Int} : ∀ {h : Nat}, 0 ≤ t → t ≤ h → pr (seg h) (fun k => if k ≤ t then 1 else -1) = (-1) ^ (h - t.toNat)
  | 0, h0, h1 => by simp [seg, pr]
  | h + 1, h0, h1 => by
    simp only [seg, pr]
    by_cases c : t ≤ h
    · rw [if_neg (by omega), pr_two h0 c]
      have : h + 1 - t.toNat = (h - t.toNat) + 1 := by omega
      rw [this, Int.pow_succ]; omega
    · have e : t = (h : Int) + 1 := by push_cast at h1; omega
      have : pr (seg h) (fun k => if k ≤ t then 1 else -1) = pr (seg h) (fun _ => 1) := pr_congr fun a ha => by
        have := mem_seg.mp ha
        rw [if_pos (by omega)]
      rw [if_pos (by omega), this, pr_const, Int.one_pow]
      have : h + 1 - t.toNat = 0 := by omega
      rw [this]; rfl
theorem neg_one_pow (k : Nat) : (-1 : Int) ^ k = if k % 2 = 0 then 1 else -1 := by
  induction k with
  | zero => rfl
  | succ k ih =>
    rw [Int.pow_succ, ih]
    by_cases c : k % 2 = 0
    · rw [if_pos c, if_neg (by omega)]; rfl
    · rw [if_neg c, if_pos (by omega)]; rfl
theorem gcd_two (hn : n = 2 * h + 1) : Int.gcd 2 n = 1 := by
  unfold Int.gcd
  have : n.natAbs = 2 * h + 1 := by omega
  rw [this]
  show Nat.gcd 2 (2 * h + 1) = 1
  rw [Nat.gcd_rec]
  have : (2 * h + 1) % 2 = 1 := by omega
  rw [this]; rfl
theorem J_two (hn : n = 2 * h + 1) : J 2 n = if n % 8 = 3 ∨ n % 8 = 5 then -1 else 1 := by
  rw [J_of hn (gcd_two hn)]
  have e : pr (seg h) (ep 2 n) = pr (seg h) (fun k => if k ≤ (h / 2 : Nat) then 1 else -1) := pr_congr fun k hk => by
    have hk := mem_seg.mp hk
    have e1 : 2 * k % n = 2 * k := Int.emod_eq_of_lt (by omega) (by omega)
    unfold ep up
    rw [e1]
    by_cases c : k ≤ (h / 2 : Nat)
    · have : ¬ n < 2 * (2 * k) := by omega
      rw [if_pos c]; simp [this]
    · have : n < 2 * (2 * k) := by omega
      rw [if_neg c]; simp [this]
  rw [e, pr_two (by omega) (by omega), neg_one_pow]
  have e2 : ((h / 2 : Nat) : Int).toNat = h / 2 := by omega
  rw [e2]
  by_cases c : n % 8 = 3 ∨ n % 8 = 5
  · rw [if_pos c, if_neg (by omega)]
  · rw [if_neg c, if_pos (by omega)]
/-! ### reciprocity -/
def par (x : Int) : Int := if x % 2 = 0 then 1 else -1
theorem par_add (x y : Int) : par (x + y) = par x * par y := by
  unfold par
  by_cases c : x % 2 = 0 <;> by_cases d : y % 2 = 0
  · rw [if_pos c, if_pos d, if_pos (by omega)]; rfl
  · rw [if_pos c, if_neg d, if_neg (by omega)]; rfl
  · rw [if_neg c, if_pos d, if_neg (by omega)]; rfl
  · rw [if_neg c, if_neg d, if_pos (by omega)]; rfl
theorem par_ep (l : List Int) : par (sm l fun k => if up a n k = true then 1 else 0) = pr l (ep a n) := by
  induction l with
  | nil => rfl
  | cons x l ih =>
    simp only [sm, pr]
    rw [par_add, ih]
    unfold ep
    cases up a n x <;> simp [par]
/-- the sum of the quotients -/
def Fl (m n : Int) (h : Nat) : Int := sm (seg h) fun k => m * k / n
theorem even_mul {x y : Int} (hx : x % 2 = 1) : (x * y) % 2 = y % 2 := by rw [Int.mul_emod, hx, Int.one_mul, Int.emod_emod]
theorem par_Fl (hn : n = 2 * h + 1) (hm : a % 2 = 1) (hc : Int.gcd a n = 1) : par (Fl a n h) = J a n := by
  rw [J_of hn hc, ← par_ep]
  have h0 : 0 < n := by omega
  have e1 : sm (seg h) (fun k => a * k) = sm (seg h) (fun k => n * (a * k / n) + a * k % n) := sm_congr fun k _ => (Int.mul_ediv_add_emod (a * k) n).symm
  rw [sm_mul, sm_add, sm_mul] at e1
  have e2 : sm (seg h) (fun k => a * k % n) = sm (seg h) (fun k => red a n k + (if up a n k = true then 1 else 0) * (n - 2 * red a n k)) := sm_congr fun k _ => by
    unfold red
    cases c : up a n k <;> simp; omega
  have e3 : sm (seg h) (fun k => red a n k) = sm (seg h) (fun k => k) := by
    rw [← sm_map (f := fun k => k) (s := red a n), sm_perm (red_perm hn hc)]
  rw [sm_add, e3] at e2
  have e4 : (sm (seg h) fun k => (if up a n k = true then 1 else 0) * (n - 2 * red a n k)) % 2 = (sm (seg h) fun k => if up a n k = true then 1 else 0) % 2 := by
    generalize seg h = l
    induction l with
    | nil => rfl
    | cons x l ih =>
      simp only [sm]
      have : ((if up a n x = true then (1 : Int) else 0) * (n - 2 * red a n x)) % 2 = (if up a n x = true then (1 : Int) else 0) % 2 := by
        cases up a n x <;> simp; omega
      omega
  have e5 := even_mul (x := a) (y := sm (seg h) fun k => k) hm
  have e6 := even_mul (x := n) (y := sm (seg h) fun k => a * k / n) (by omega)
  have e7 : (sm (seg h) fun k => a * k / n) % 2 = (sm (seg h) fun k => if up a n k = true then 1 else 0) % 2 := by omega
  unfold par Fl
  rw [e7]
theorem Fl_count {m : Int} {hm : Nat} (hn : n = 2 * h + 1) (hM : m = 2 * hm + 1) : Fl m n h = sm (seg h) fun k => sm (seg hm) fun j => if n * j ≤ m * k then 1 else 0 := by
  unfold Fl
  apply sm_congr
  intro k hk
  have hk := mem_seg.mp hk
  have h0 : 0 < n := by omega
  have hmk : 0 ≤ m * k := Int.mul_nonneg (by omega) (by omega)
  have e : (sm (seg hm) fun j => if n * j ≤ m * k then (1 : Int) else 0) = sm (seg hm) fun j => if j ≤ m * k / n then 1 else 0 := sm_congr fun j _ => by
    have : j ≤ m * k / n ↔ n * j ≤ m * k := by rw [Int.le_ediv_iff_mul_le h0, Int.mul_comm]
    by_cases c : n * j ≤ m * k
    · rw [if_pos c, if_pos (this.mpr c)]
    · rw [if_neg c, if_neg fun z => c (this.mp z)]
  rw [e, count_le (Int.ediv_nonneg hmk (by omega))]
  have h1 : m * k / n < hm + 1 := by
    apply Int.ediv_lt_of_lt_mul h0
    have h2 : m * k ≤ m * h := Int.mul_le_mul_of_nonneg_left (by omega) (by omega)
    subst hn hM
    have h3 : (2 * (hm : Int) + 1) * h = 2 * (hm * h) + h := by rw [Int.add_mul, Int.mul_assoc]; omega
    have h4 : ((hm : Int) + 1) * (2 * h + 1) = 2 * (hm * h) + hm + (2 * h + 1) := by rw [Int.add_mul, Int.mul_add, Int.mul_left_comm]; omega
    omega
  omega
theorem lattice {m : Int} {hm : Nat} (hn : n = 2 * h + 1) (hM : m = 2 * hm + 1) (hc : Int.gcd m n = 1) : Fl m n h + Fl n m hm = h * hm := by
  rw [Fl_count hn hM, Fl_count hM hn, sm_swap (l := seg hm), ← sm_add]
  have : (sm (seg h) fun k => (sm (seg hm) fun j => if n * j ≤ m * k then (1 : Int) else 0) + sm (seg hm) fun j => if m * k ≤ n * j then 1 else 0) = sm (seg h) fun _ => (hm : Int) := sm_congr fun k hk => by
    have hk := mem_seg.mp hk
    rw [← sm_add]
    have : (sm (seg hm) fun j => (if n * j ≤ m * k then (1 : Int) else 0) + if m * k ≤ n * j then 1 else 0) = sm (seg hm) fun _ => 1 := sm_congr fun j hj => by
      have hj := mem_seg.mp hj
      have hne : n * j ≠ m * k := fun z => by
        have : n ∣ m * k := ⟨j, z.symm⟩
        exact not_dvd_small hk.1 (by omega) (cop_dvd hc this)
      rcases Int.lt_or_le (n * j) (m * k) with c | c
      · rw [if_pos (by omega), if_neg (by omega)]; rfl
      · rw [if_neg (by omega), if_pos c]; rfl
    rw [this, sm_const, seg_len]; simp
  rw [this, sm_const, seg_len, Int.mul_comm]
/-- reciprocity: the sign is kept but where both leave 3 by 4 -/
theorem recip {m : Int} {hm : Nat} (hn : n = 2 * h + 1) (hM : m = 2 * hm + 1) : J m n = if m % 4 = 3 ∧ n % 4 = 3 then - J n m else J n m := by
  by_cases hc : Int.gcd m n = 1
  · have hc' : Int.gcd n m = 1 := by rw [Int.gcd_comm]; exact hc
    have e1 := par_Fl hn (by omega : m % 2 = 1) hc
    have e2 := par_Fl hM (by omega : n % 2 = 1) hc'
    have e3 := lattice hn hM hc
    have e4 : J m n * J n m = par (h * hm) := by rw [← e1, ← e2, ← par_add, e3]
    have e5 : par (h * hm) = if m % 4 = 3 ∧ n % 4 = 3 then -1 else 1 := by
      unfold par
      have : ((h : Int) * hm) % 2 = 0 ↔ ¬ (m % 4 = 3 ∧ n % 4 = 3) := by
        rw [Int.mul_emod]
        rcases (by omega : (h : Int) % 2 = 0 ∨ (h : Int) % 2 = 1) with x | x <;> rcases (by omega : (hm : Int) % 2 = 0 ∨ (hm : Int) % 2 = 1) with y | y <;> rw [x, y] <;> simp <;> omega
      by_cases c : m % 4 = 3 ∧ n % 4 = 3
      · rw [if_pos c, if_neg (fun z => this.mp z c)]
      · rw [if_neg c, if_pos (this.mpr c)]
    rw [e5] at e4
    have u1 := J_unit m n
    have u2 := J_unit n m
    by_cases c : m % 4 = 3 ∧ n % 4 = 3
    · rw [if_pos c] at e4 ⊢
      rcases u1 with x | x | x <;> rcases u2 with y | y | y <;> rw [x, y] at e4 ⊢ <;> simp at e4 ⊢
    · rw [if_neg c] at e4 ⊢
      rcases u1 with x | x | x <;> rcases u2 with y | y | y <;> rw [x, y] at e4 ⊢ <;> simp at e4 ⊢
  · have hc' : Int.gcd n m ≠ 1 := by rw [Int.gcd_comm]; exact hc
    unfold J
    rw [if_neg hc, if_neg hc']
    simp
end
end NT

end

section
set_option autoImplicit false
set_option autoImplicit false
/-! Euler's criterion, Fermat, Proth -/
namespace NT
theorem Pm.not_dvd_mul {p a b : Int} (hp : Pm p) (ha : ¬ p ∣ a) (hb : ¬ p ∣ b) : ¬ p ∣ a * b := fun h => by
  rcases hp.euclid h with z | z
  · exact ha z
  · exact hb z
theorem Pm.gcd_one {p a : Int} (hp : Pm p) (ha : ¬ p ∣ a) : Int.gcd a p = 1 := by
  have h1 : (Int.gcd a p : Int) ∣ p := Int.gcd_dvd_right ..
  have h2 : (Int.gcd a p : Int) ∣ a := Int.gcd_dvd_left ..
  have h0 : 0 < Int.gcd a p := Int.gcd_pos_of_ne_zero_right _ (by have := hp.1; omega)
  have hle : (Int.gcd a p : Int) ≤ p := Int.le_of_dvd (by have := hp.1; omega) h1
  apply Classical.byContradiction
  intro h
  by_cases c : (Int.gcd a p : Int) = p
  · rw [c] at h2; exact ha h2
  · exact hp.2 _ (by omega) (by omega) h1
theorem Pm.pr_not {p : Int} (hp : Pm p) : ∀ {h : Nat}, (h : Int) < p → ¬ p ∣ pr (seg h) (fun k => k)
  | 0, _ => by
    intro z
    have := Int.le_of_dvd (by decide) z
    have := hp.1
    simp [seg, pr] at *
    omega
  | h + 1, hh => by
    simp only [seg, pr]
    exact hp.not_dvd_mul (not_dvd_small (by omega) (by push_cast at hh; omega)) (hp.pr_not (by push_cast at hh; omega))
theorem emod_eq_iff {a b n : Int} : a % n = b % n ↔ n ∣ a - b := by
  rw [Int.emod_eq_emod_iff_emod_sub_eq_zero]
  exact ⟨Int.dvd_of_emod_eq_zero, Int.emod_eq_zero_of_dvd⟩
/-- Euler -/
theorem Pm.euler {p a : Int} {h : Nat} (hp : Pm p) (hn : p = 2 * h + 1) (h0 : 0 < h) : a ^ h % p = J a p % p := by
  by_cases ha : p ∣ a
  · have e : J a p = 0 := by
      unfold J
      rw [if_neg]
      intro z
      have : p ∣ 1 := by rw [← (show ((Int.gcd a p : Nat) : Int) = 1 by rw [z]; rfl)]; exact Int.dvd_coe_gcd ha (Int.dvd_refl p)
      have := Int.le_of_dvd (by decide) this
      have := hp.1; omega
    rw [e]
    obtain ⟨k, rfl⟩ : ∃ k, h = k + 1 := ⟨h - 1, by omega⟩
    rw [Int.pow_succ]
    have : p ∣ a ^ k * a := Int.dvd_trans ha (Int.dvd_mul_left ..)
    rw [Int.emod_eq_zero_of_dvd this]; simp
  · have hc := hp.gcd_one ha
    have g := gauss hn hc
    rw [emod_eq_iff] at g ⊢
    rw [← Int.sub_mul] at g
    rcases hp.euclid g with z | z
    · exact z
    · exact absurd z (hp.pr_not (by omega))
theorem Pm.J_ne {p a : Int} (hp : Pm p) (ha : ¬ p ∣ a) : J a p = 1 ∨ J a p = -1 := by
  rcases J_unit a p with h | h | h
  · exfalso
    unfold J at h
    rw [if_pos (hp.gcd_one ha)] at h
    have : ∀ l : List Int, pr l (ep a p) ≠ 0 := by
      intro l
      induction l with
      | nil => simp [pr]
      | cons x l ih =>
        simp only [pr]
        rcases ep_cases a p x with e | e <;> rw [e] <;> simp [ih]
    exact this _ h
  · exact .inl h
  · exact .inr h
/-- Fermat, for odd primes -/
theorem Pm.fermat {p a : Int} {h : Nat} (hp : Pm p) (hn : p = 2 * h + 1) (h0 : 0 < h) (ha : ¬ p ∣ a) : p ∣ a ^ (2 * h) - 1 := by
  have e := hp.euler (a := a) hn h0
  rw [emod_eq_iff] at e
  have : a ^ (2 * h) - 1 = (a ^ h - J a p) * (a ^ h + J a p) := by
    have j : J a p * J a p = 1 := by rcases hp.J_ne ha with x | x <;> rw [x] <;> rfl
    rw [Nat.mul_comm, Int.pow_mul, Int.pow_succ, Int.pow_succ, Int.pow_zero, Int.one_mul, Int.sub_mul, Int.mul_add, Int.mul_add, j, Int.mul_comm (J a p)]
    omega
  rw [this]
  exact Int.dvd_trans e (Int.dvd_mul_right ..)
/-- what is no prime has a prime divisor up to its root -/
theorem prime_div {n : Int} (h2 : 2 ≤ n) (hn : ¬ Pm n) : ∃ q, Pm q ∧ q ∣ n ∧ q * q ≤ n := by
  have hx : ∃ x, 2 ≤ x ∧ x * x ≤ n ∧ x ∣ n := by
    apply Classical.byContradiction
    intro z
    exact hn ((Pm_iff h2).mpr fun x a b c => z ⟨x, a, b, c⟩)
  have key : ∀ (k : Nat) (x : Int), x ≤ k → 2 ≤ x → x * x ≤ n → x ∣ n → ∃ q, Pm q ∧ q ∣ n ∧ q * q ≤ n := by
    intro k
    induction k with
    | zero => intro x h1 h2; omega
    | succ k ih =>
      intro x h1 h2 h3 h4
      by_cases c : Pm x
      · exact ⟨x, c, h4, h3⟩
      · have : ∃ d, 2 ≤ d ∧ d < x ∧ d ∣ x := by
          apply Classical.byContradiction
          intro z
          exact c ⟨h2, fun d a b e => z ⟨d, a, b, e⟩⟩
        obtain ⟨d, d1, d2, d3⟩ := this
        have : d * d ≤ x * x := Int.mul_le_mul (by omega) (by omega) (by omega) (by omega)
        exact ih d (by push_cast at h1; omega) d1 (by omega) (Int.dvd_trans d3 h4)
  obtain ⟨x, a, b, c⟩ := hx
  exact key x.toNat x (by omega) a b c
theorem two_split : ∀ (n : Nat), 0 < n → ∃ j m, n = 2 ^ j * m ∧ m % 2 = 1 := by
  intro n
  induction n using Nat.strongRecOn with
  | ind n ih =>
    intro h
    by_cases c : n % 2 = 1
    · exact ⟨0, n, by simp, c⟩
    · obtain ⟨j, m, e, hm⟩ := ih (n / 2) (by omega) (by omega)
      refine ⟨j + 1, m, ?_, hm⟩
      rw [Nat.pow_succ, Nat.mul_comm (2 ^ j) 2, Nat.mul_assoc, ← e]; omega
theorem pow_dvd_sub {q a b : Int} (h : q ∣ a - b) : ∀ k : Nat, q ∣ a ^ k - b ^ k
  | 0 => by simp
  | k + 1 => by
    have ih := pow_dvd_sub h k
    have : a ^ (k + 1) - b ^ (k + 1) = (a ^ k - b ^ k) * a + b ^ k * (a - b) := by
      rw [Int.pow_succ, Int.pow_succ, Int.sub_mul, Int.mul_sub]; omega
    rw [this]
    exact Int.dvd_add (Int.dvd_trans ih (Int.dvd_mul_right ..)) (Int.dvd_trans h (Int.dvd_mul_left ..))
/-- a power of two as order -/
theorem order_two {q x : Int} {h p : Nat} (hq : Pm q) (hn : q = 2 * h + 1) (h0 : 0 < h) (hx : ¬ q ∣ x) (hm : q ∣ x ^ (2 ^ p) + 1) : (2 : Int) ^ (p + 1) ≤ q - 1 := by
  obtain ⟨j, m, e, hm1⟩ := two_split (2 * h) (by omega)
  have hf := hq.fermat hn h0 hx
  rcases Nat.lt_or_ge p j with c | c
  · have h1 : 2 ^ (p + 1) ≤ 2 ^ j := Nat.pow_le_pow_right (by decide) c
    have h2 : 2 ^ j * 1 ≤ 2 ^ j * m := Nat.mul_le_mul_left _ (by omega)
    have h3 : ((2 ^ (p + 1) : Nat) : Int) = (2 : Int) ^ (p + 1) := by rw [Int.natCast_pow]; rfl
    omega
  · exfalso
    obtain ⟨r, rfl⟩ : ∃ r, p = j + r := ⟨p - j, by omega⟩
    have h1 := pow_dvd_sub hf (2 ^ r)
    rw [Int.one_pow, ← Int.pow_mul, e] at h1
    have e2 : 2 ^ j * m * 2 ^ r = 2 ^ (j + r) * m := by rw [Nat.pow_add]; rw [Nat.mul_right_comm]
    rw [e2, Int.pow_mul] at h1
    have h2 : q ∣ x ^ (2 ^ (j + r)) - (-1) := by rw [Int.sub_neg]; exact hm
    have h3 := pow_dvd_sub h2 m
    rw [neg_one_pow, if_neg (by omega)] at h3
    have h4 := Int.dvd_sub h3 h1
    have e5 : (x ^ 2 ^ (j + r)) ^ m - -1 - ((x ^ 2 ^ (j + r)) ^ m - 1) = 2 := by omega
    rw [e5] at h4
    have := Int.le_of_dvd (by decide) h4
    have := hq.1; omega
/-- Proth -/
theorem proth {g f b : Int} {p : Nat} (hg : g = f * 2 ^ (p + 1) + 1) (f1 : 1 ≤ f) (f2 : f < 2 ^ (p + 1)) (hb : b ^ (g / 2).toNat % g = g - 1) : Pm g := by
  have p0 : (0 : Int) < 2 ^ p := by
    have := Int.pow_pos (n := 2) (m := p) (by decide); exact this
  have e1 : (2 : Int) ^ (p + 1) = 2 * 2 ^ p := by rw [Int.pow_succ]; omega
  obtain ⟨F, rfl⟩ : ∃ F : Nat, f = F := ⟨f.toNat, by omega⟩
  have gge : 3 ≤ g := by
    have : 1 * 2 ^ (p + 1) ≤ (F : Int) * 2 ^ (p + 1) := Int.mul_le_mul_of_nonneg_right f1 (by omega)
    omega
  have godd : g = 2 * (F * 2 ^ p) + 1 := by rw [hg, e1, Int.mul_left_comm]
  have ht : (g / 2).toNat = F * 2 ^ p := by
    have e : ((F * 2 ^ p : Nat) : Int) = (F : Int) * 2 ^ p := by push_cast; rfl
    omega
  rw [ht] at hb
  apply Classical.byContradiction
  intro hn
  obtain ⟨q, hq, hd, hl⟩ := prime_div (by omega) hn
  have q2 : q % 2 = 1 := by
    rcases (by omega : q % 2 = 0 ∨ q % 2 = 1) with z | z
    · exfalso
      have : 2 ∣ g := Int.dvd_trans (Int.dvd_of_emod_eq_zero z) hd
      omega
    · exact z
  obtain ⟨h, hh⟩ : ∃ h : Nat, q = 2 * h + 1 := ⟨(q / 2).toNat, by have := hq.1; omega⟩
  have h0 : 0 < h := by have := hq.1; omega
  have k1 : g ∣ b ^ (F * 2 ^ p) - (-1) := by
    rw [← emod_eq_iff, hb]
    have : (-1 : Int) = (g - 1) + g * (-1) := by omega
    rw [this, Int.add_mul_emod_self_left, Int.emod_eq_of_lt (by omega) (by omega)]
  have k2 : q ∣ (b ^ F) ^ (2 ^ p) + 1 := by
    rw [← Int.pow_mul]
    have := Int.dvd_trans hd k1
    rw [Int.sub_neg] at this; exact this
  have k3 : ¬ q ∣ b ^ F := fun z => by
    have : q ∣ (b ^ F) ^ (2 ^ p) := by
      obtain ⟨k, hk⟩ : ∃ k, 2 ^ p = k + 1 := ⟨2 ^ p - 1, by have := Nat.pow_pos (n := p) (show 0 < 2 by decide); omega⟩
      rw [hk, Int.pow_succ]; exact Int.dvd_trans z (Int.dvd_mul_left ..)
    have h1 := Int.dvd_sub k2 this
    have e : (b ^ F) ^ 2 ^ p + 1 - (b ^ F) ^ 2 ^ p = 1 := by omega
    rw [e] at h1
    have := Int.le_of_dvd (by decide) h1
    have := hq.1; omega
  have k4 := order_two hq hh h0 k3 k2
  have k5 : (2 ^ (p + 1) + 1) * (2 ^ (p + 1) + 1) ≤ q * q := Int.mul_le_mul (by omega) (by omega) (by omega) (by omega)
  have k6 : (F : Int) * 2 ^ (p + 1) ≤ 2 ^ (p + 1) * 2 ^ (p + 1) := Int.mul_le_mul_of_nonneg_right (by omega) (by omega)
  have k7 : ((2 : Int) ^ (p + 1) + 1) * (2 ^ (p + 1) + 1) = 2 ^ (p + 1) * 2 ^ (p + 1) + 2 * 2 ^ (p + 1) + 1 := by rw [Int.add_mul, Int.mul_add]; omega
  omega
end NT

end

section
set_option autoImplicit false
set_option autoImplicit false
/-! the sign by steps -/
namespace NT
def fl (b s : Int) : Int := if b % 8 = 3 ∨ b % 8 = 5 then -s else s
def tw (b : Int) : Nat → Int → Int → Int × Int
  | 0, t, s => (t, s)
  | k + 1, t, s => if t % 2 = 0 then tw b k (t / 2) (fl b s) else (t, s)
theorem tw_spec {b : Int} : ∀ (k : Nat) (t s : Int), 0 < t → t ≤ k → (tw b k t s).1 % 2 = 1 ∧ 0 < (tw b k t s).1 ∧ (tw b k t s).1 ≤ t
  | 0, t, s, h, hk => by omega
  | k + 1, t, s, h, hk => by
    unfold tw
    split
    · obtain ⟨a, c, d⟩ := tw_spec (b := b) k (t / 2) (fl b s) (by omega) (by omega)
      exact ⟨a, c, by omega⟩
    · exact ⟨by omega, by omega, by omega⟩
def rec4 (t b s : Int) : Int := if t % 4 = 3 ∧ b % 4 = 3 then -s else s
def sl : Nat → Int → Int → Int → Int × Int
  | 0, _, b, s => (s, b)
  | k + 1, t, b, s => if t = 0 then (s, b) else
    let w := tw b t.toNat t s
    sl k (b % w.1) w.1 (rec4 w.1 b w.2)
def sgn (a g : Int) : Int := let r := sl (g.toNat + 1) (a % g) g 1; if r.2 = 1 then r.1 else 0
theorem tw_J {b : Int} (hb : b % 2 = 1) (h0 : 0 < b) : ∀ (k : Nat) (t s : Int), (tw b k t s).2 * J (tw b k t s).1 b = s * J t b
  | 0, t, s => rfl
  | k + 1, t, s => by
    unfold tw
    split
    · rename_i c
      rw [tw_J hb h0 k (t / 2) (fl b s)]
      obtain ⟨h, hh⟩ : ∃ h : Nat, b = 2 * h + 1 := ⟨(b / 2).toNat, by omega⟩
      have e : J t b = J 2 b * J (t / 2) b := by
        rw [← J_mul hh]; congr 1; omega
      rw [e, J_two hh]
      unfold fl
      by_cases d : b % 8 = 3 ∨ b % 8 = 5
      · rw [if_pos d, if_pos d, Int.neg_mul, Int.neg_mul, Int.one_mul, Int.mul_neg]
      · rw [if_neg d, if_neg d, Int.one_mul]
    · rfl
theorem J_zero {b : Int} (h0 : 0 < b) : J 0 b = if b = 1 then 1 else 0 := by
  unfold J
  have : Int.gcd 0 b = b.natAbs := by simp
  rw [this]
  by_cases c : b = 1
  · subst c; rfl
  · rw [if_neg (by omega), if_neg c]
theorem sl_J : ∀ (k : Nat) (t b s : Int), 0 ≤ t → t < k → b % 2 = 1 → 0 < b → (if (sl k t b s).2 = 1 then (sl k t b s).1 else 0) = s * J t b
  | 0, t, b, s, h, hk, _, _ => by omega
  | k + 1, t, b, s, h, hk, hb, h0 => by
    by_cases c : t = 0
    · subst c
      rw [J_zero h0]
      simp only [sl, if_true]
      by_cases d : b = 1 <;> simp [d]
    · obtain ⟨w1, w2, w3⟩ := tw_spec (b := b) t.toNat t s (by omega) (by omega)
      have j := tw_J hb h0 t.toNat t s
      obtain ⟨t', ht'⟩ : ∃ t', t' = (tw b t.toNat t s).1 := ⟨_, rfl⟩
      obtain ⟨s', hs'⟩ : ∃ s', s' = (tw b t.toNat t s).2 := ⟨_, rfl⟩
      have e : sl (k + 1) t b s = sl k (b % t') t' (rec4 t' b s') := by rw [sl, if_neg c, ht', hs']
      rw [← ht'] at w1 w2 w3 j
      rw [← hs'] at j
      have h1 := Int.emod_nonneg b (by omega : t' ≠ 0)
      have h2 := Int.emod_lt_of_pos b w2
      rw [e, sl_J k (b % t') t' (rec4 t' b s') h1 (by omega) w1 w2, J_mod, ← j]
      obtain ⟨x, hx⟩ : ∃ h : Nat, b = 2 * h + 1 := ⟨(b / 2).toNat, by omega⟩
      obtain ⟨y, hy⟩ : ∃ h : Nat, t' = 2 * h + 1 := ⟨(t' / 2).toNat, by omega⟩
      rw [recip hx hy]
      unfold rec4
      by_cases d : t' % 4 = 3 ∧ b % 4 = 3
      · rw [if_pos d, if_pos d, Int.neg_mul, Int.mul_neg]
      · rw [if_neg d, if_neg d]
theorem sgn_J {a g : Int} (h0 : 0 < g) (hg : g % 2 = 1) : sgn a g = J a g := by
  have h1 := Int.emod_nonneg a (by omega : g ≠ 0)
  have h2 := Int.emod_lt_of_pos a h0
  have := sl_J (g.toNat + 1) (a % g) g 1 h1 (by omega) hg h0
  rw [J_mod, Int.one_mul] at this
  exact this
/-- by a prime the sign is the half power -/
theorem sgn_prime {a g : Int} (hp : Pm g) (h3 : 3 ≤ g) (hg : g % 2 = 1) : (sgn a g = 1 ↔ a ^ (g / 2).toNat % g = 1) ∧ (sgn a g = -1 ↔ a ^ (g / 2).toNat % g = g - 1) ∧ (sgn a g = 0 ↔ g ∣ a) := by
  have e := hp.euler (a := a) (h := (g / 2).toNat) (by omega) (by omega)
  rw [sgn_J (by omega) hg, e]
  have m1 : (-1) % g = g - 1 := by
    have : (-1 : Int) = (g - 1) + g * (-1) := by omega
    rw [this, Int.add_mul_emod_self_left, Int.emod_eq_of_lt (by omega) (by omega)]
  have m2 : (1 : Int) % g = 1 := Int.emod_eq_of_lt (by omega) (by omega)
  by_cases ha : g ∣ a
  · have j : J a g = 0 := by
      have h := J_mod a g
      rw [Int.emod_eq_zero_of_dvd ha, J_zero (by omega), if_neg (by omega)] at h
      exact h.symm
    rw [j]
    simp [ha]; omega
  · rcases hp.J_ne ha with j | j <;> rw [j]
    · rw [m2]; simp [ha]; omega
    · rw [m1]; simp [ha]; omega
end NT

end

section
set_option autoImplicit false
set_option autoImplicit false
namespace NT
/-- the least divisor from 2 on -/
def LD (n r : Int) : Prop := 2 ≤ r ∧ r ∣ n ∧ ∀ d, 2 ≤ d → d < r → ¬ d ∣ n
theorem LD.uniq {n r s : Int} (a : LD n r) (b : LD n s) : r = s := by
  rcases Int.lt_trichotomy r s with h | h | h
  · exact absurd a.2.1 (b.2.2 r a.1 h)
  · exact h
  · exact absurd b.2.1 (a.2.2 s b.1 h)
theorem LD.prime {n r : Int} (h : LD n r) : Pm r := ⟨h.1, fun d d1 d2 d3 => h.2.2 d d1 d2 (Int.dvd_trans d3 h.2.1)⟩
theorem LD.pmb {n r : Int} (h : LD n r) (h2 : 2 ≤ n) : pmb n = decide (r = n) := by
  by_cases c : r = n
  · subst c
    simp only [decide_true]
    exact pmb_iff.mpr h.prime
  · simp only [c, decide_false]
    cases e : NT.pmb n with
    | false => rfl
    | true =>
      have := pmb_iff.mp e
      have := Int.le_of_dvd (by omega) h.2.1
      exact absurd h.2.1 ((pmb_iff.mp e).2 r h.1 (by omega))
theorem LD.end {n p : Int} (h2 : 2 ≤ n) (hp : 2 ≤ p) (hn : n < p * p) (h : ∀ d, 2 ≤ d → d < p → ¬ d ∣ n) : LD n n := by
  refine ⟨h2, Int.dvd_refl n, fun d d1 d2 d3 => ?_⟩
  obtain ⟨e, he⟩ := d3
  have e0 : 0 < e := by
    rcases Int.lt_or_le 0 e with w | w
    · exact w
    · have : d * e ≤ 0 := Int.mul_nonpos_of_nonneg_of_nonpos (by omega) w
      omega
  have e1 : e ≠ 1 := fun z => by subst z; omega
  rcases Int.lt_or_le d p with w | w
  · exact h d d1 w ⟨e, he⟩
  · rcases Int.lt_or_le e p with v | v
    · exact h e (by omega) v ⟨d, by rw [Int.mul_comm]; exact he⟩
    · have : p * p ≤ d * e := Int.mul_le_mul w v (by omega) (by omega)
      omega
theorem dvd_of_two {d n : Int} (h : d % 2 = 0) (hn : n % 2 ≠ 0) : ¬ d ∣ n := fun z => by
  have : 2 ∣ n := Int.dvd_trans (Int.dvd_of_emod_eq_zero h) z
  omega
theorem dvd_of_three {d n : Int} (h : d % 3 = 0) (hn : n % 3 ≠ 0) : ¬ d ∣ n := fun z => by
  have : 3 ∣ n := Int.dvd_trans (Int.dvd_of_emod_eq_zero h) z
  omega
theorem not_dvd_of {d n : Int} (h : n % d ≠ 0) : ¬ d ∣ n := fun z => h (Int.emod_eq_zero_of_dvd z)
theorem ex_LD {n : Int} (h2 : 2 ≤ n) : ∃ r, LD n r := by
  have key : ∀ (k : Nat) (x : Int), x ≤ k → 2 ≤ x → x ∣ n → ∃ r, LD n r := by
    intro k
    induction k with
    | zero => intro x h1 h2; omega
    | succ k ih =>
      intro x h1 h2 h3
      by_cases c : ∃ d, 2 ≤ d ∧ d < x ∧ d ∣ n
      · obtain ⟨d, d1, d2, d3⟩ := c
        exact ih d (by push_cast at h1; omega) d1 d3
      · exact ⟨x, h2, h3, fun d a b e => c ⟨d, a, b, e⟩⟩
  exact key n.toNat n (by omega) h2 (Int.dvd_refl n)
end NT

end

section
set_option autoImplicit false
set_option autoImplicit false
/-! factors -/
namespace NT
def prodF : List (Int × Nat) → Int
  | [] => 1
  | (p, k) :: l => p ^ k * prodF l
theorem prodF_append : ∀ (l m : List (Int × Nat)), prodF (l ++ m) = prodF l * prodF m
  | [], m => by simp [prodF]
  | (p, k) :: l, m => by simp only [List.cons_append, prodF, prodF_append l m, Int.mul_assoc]
structure Fac (n : Int) (l : List (Int × Nat)) : Prop where
  pm : ∀ q ∈ l, Pm q.1 ∧ 1 ≤ q.2
  asc : l.Pairwise (fun a b => a.1 < b.1)
  eq : prodF l = n
theorem Pm.dvd_pow {p a : Int} (hp : Pm p) : ∀ {k : Nat}, p ∣ a ^ k → p ∣ a
  | 0, h => by
    rw [Int.pow_zero] at h
    have := Int.le_of_dvd (by decide) h
    have := hp.1
    omega
  | k + 1, h => by
    rw [Int.pow_succ] at h
    rcases hp.euclid h with z | z
    · exact hp.dvd_pow z
    · exact z
theorem Pm.dvd_Pm {p q : Int} (hp : Pm p) (hq : Pm q) (h : p ∣ q) : p = q := by
  have := Int.le_of_dvd (by have := hq.1; omega) h
  rcases Int.lt_or_le p q with c | c
  · exact absurd h (hq.2 p hp.1 c)
  · omega
theorem dvd_prodF {p : Int} (hp : Pm p) : ∀ {l : List (Int × Nat)}, (∀ q ∈ l, Pm q.1 ∧ 1 ≤ q.2) → p ∣ prodF l → ∃ k, (p, k) ∈ l
  | [], _, h => by
    have := Int.le_of_dvd (by decide) h
    have := hp.1
    simp [prodF] at *; omega
  | (q, k) :: l, hl, h => by
    simp only [prodF] at h
    rcases hp.euclid h with z | z
    · have := hp.dvd_Pm (hl (q, k) (List.mem_cons_self ..)).1 (hp.dvd_pow z)
      exact ⟨k, by rw [this]; exact List.mem_cons_self ..⟩
    · obtain ⟨k, hk⟩ := dvd_prodF hp (fun x hx => hl x (List.mem_cons_of_mem _ hx)) z
      exact ⟨k, List.mem_cons_of_mem _ hk⟩
theorem prodF_pos : ∀ {l : List (Int × Nat)}, (∀ q ∈ l, Pm q.1 ∧ 1 ≤ q.2) → 0 < prodF l
  | [], _ => by simp [prodF]
  | (q, k) :: l, hl => by
    simp only [prodF]
    have h1 := (hl (q, k) (List.mem_cons_self ..)).1.1
    exact Int.mul_pos (Int.pow_pos (by simp at h1; omega)) (prodF_pos fun x hx => hl x (List.mem_cons_of_mem _ hx))
theorem dvd_mem {p : Int} {k : Nat} : ∀ {l : List (Int × Nat)}, (p, k) ∈ l → p ^ k ∣ prodF l
  | [], h => by cases h
  | (q, j) :: l, h => by
    rcases List.mem_cons.mp h with e | e
    · cases e
      exact Int.dvd_mul_right ..
    · exact Int.dvd_trans (dvd_mem e) (Int.dvd_mul_left ..)
theorem Fac.tail {n : Int} {q : Int × Nat} {l : List (Int × Nat)} (h : Fac n (q :: l)) : Fac (prodF l) l :=
  ⟨fun x hx => h.pm x (List.mem_cons_of_mem _ hx), (List.pairwise_cons.mp h.asc).2, rfl⟩
theorem Fac.not_dvd_tail {n : Int} {p : Int} {k : Nat} {l : List (Int × Nat)} (h : Fac n ((p, k) :: l)) : ¬ p ∣ prodF l := fun z => by
  obtain ⟨j, hj⟩ := dvd_prodF (h.pm (p, k) (List.mem_cons_self ..)).1 (fun x hx => h.pm x (List.mem_cons_of_mem _ hx)) z
  have := (List.pairwise_cons.mp h.asc).1 _ hj
  simp at this
theorem pow_cancel {p a b : Int} (h0 : p ≠ 0) (ha : ¬ p ∣ a) (hb : ¬ p ∣ b) : ∀ {j k : Nat}, p ^ j * a = p ^ k * b → j = k ∧ a = b
  | 0, 0, e => ⟨rfl, by simpa using e⟩
  | 0, k + 1, e => by
    exfalso; apply ha
    rw [Int.pow_zero, Int.one_mul, Int.pow_succ] at e
    rw [e]; exact ⟨p ^ k * b, by rw [Int.mul_comm (p ^ k) p, Int.mul_assoc]⟩
  | j + 1, 0, e => by
    exfalso; apply hb
    rw [Int.pow_zero, Int.one_mul, Int.pow_succ] at e
    rw [← e]; exact ⟨p ^ j * a, by rw [Int.mul_comm (p ^ j) p, Int.mul_assoc]⟩
  | j + 1, k + 1, e => by
    rw [Int.pow_succ, Int.pow_succ, Int.mul_right_comm, Int.mul_right_comm (p ^ k)] at e
    obtain ⟨h1, h2⟩ := pow_cancel h0 ha hb (Int.eq_of_mul_eq_mul_right h0 e)
    exact ⟨by rw [h1], h2⟩
/-- the factors are one row -/
theorem Fac.uniq : ∀ {l m : List (Int × Nat)} {n : Int}, Fac n l → Fac n m → l = m
  | [], [], _, _, _ => rfl
  | [], (q, j) :: m, n, h, g => by
    exfalso
    have e1 : (1 : Int) = n := h.eq
    have d := dvd_mem (l := (q, j) :: m) (List.mem_cons_self ..)
    rw [g.eq, ← e1] at d
    have hq := (g.pm (q, j) (List.mem_cons_self ..))
    have : q ∣ 1 := by
      obtain ⟨i, rfl⟩ : ∃ i, j = i + 1 := ⟨j - 1, by have := hq.2; simp at this; omega⟩
      exact Int.dvd_trans (by rw [Int.pow_succ]; exact Int.dvd_mul_left ..) d
    have := Int.le_of_dvd (by decide) this
    have := hq.1.1
    simp at this; omega
  | (q, j) :: l, [], n, h, g => by
    exfalso
    have e1 : (1 : Int) = n := g.eq
    have d := dvd_mem (l := (q, j) :: l) (List.mem_cons_self ..)
    rw [h.eq, ← e1] at d
    have hq := (h.pm (q, j) (List.mem_cons_self ..))
    have : q ∣ 1 := by
      obtain ⟨i, rfl⟩ : ∃ i, j = i + 1 := ⟨j - 1, by have := hq.2; simp at this; omega⟩
      exact Int.dvd_trans (by rw [Int.pow_succ]; exact Int.dvd_mul_left ..) d
    have := Int.le_of_dvd (by decide) this
    have := hq.1.1
    simp at this; omega
  | (p, i) :: l, (q, j) :: m, n, h, g => by
    have hp := h.pm (p, i) (List.mem_cons_self ..)
    have hq := g.pm (q, j) (List.mem_cons_self ..)
    have dp : p ∣ n := by
      rw [← h.eq]
      obtain ⟨k, e⟩ : ∃ k, i = k + 1 := ⟨i - 1, by have := hp.2; simp at this; omega⟩
      simp only [prodF]; rw [e, Int.pow_succ]
      exact Int.dvd_trans (Int.dvd_mul_left ..) (Int.dvd_mul_right ..)
    have dq : q ∣ n := by
      rw [← g.eq]
      obtain ⟨k, e⟩ : ∃ k, j = k + 1 := ⟨j - 1, by have := hq.2; simp at this; omega⟩
      simp only [prodF]; rw [e, Int.pow_succ]
      exact Int.dvd_trans (Int.dvd_mul_left ..) (Int.dvd_mul_right ..)
    have le1 : q ≤ p := by
      rw [← g.eq] at dp
      obtain ⟨k, hk⟩ := dvd_prodF hp.1 g.pm dp
      rcases List.mem_cons.mp hk with e | e
      · cases e; exact Int.le_refl _
      · have := (List.pairwise_cons.mp g.asc).1 _ e; simp at this; omega
    have le2 : p ≤ q := by
      rw [← h.eq] at dq
      obtain ⟨k, hk⟩ := dvd_prodF hq.1 h.pm dq
      rcases List.mem_cons.mp hk with e | e
      · cases e; exact Int.le_refl _
      · have := (List.pairwise_cons.mp h.asc).1 _ e; simp at this; omega
    have e : p = q := by omega
    subst e
    have e2 : p ^ i * prodF l = p ^ j * prodF m := by
      have h1 := h.eq; have g1 := g.eq
      simp only [prodF] at h1 g1
      rw [h1, g1]
    obtain ⟨k1, k2⟩ := pow_cancel (by have := hp.1.1; simp at this; omega) h.not_dvd_tail g.not_dvd_tail e2
    subst k1
    have := Fac.uniq h.tail (by rw [k2]; exact g.tail)
    rw [this]
theorem prodF_len : ∀ {l : List (Int × Nat)}, (∀ q ∈ l, Pm q.1 ∧ 1 ≤ q.2) → (2 : Int) ^ l.length ≤ prodF l
  | [], _ => by simp [prodF]
  | (q, k) :: l, hl => by
    have ih := prodF_len fun x hx => hl x (List.mem_cons_of_mem _ hx)
    have hq := hl (q, k) (List.mem_cons_self ..)
    have h2 : 2 ≤ q := hq.1.1
    obtain ⟨i, e⟩ : ∃ i, k = i + 1 := ⟨k - 1, by have := hq.2; simp at this; omega⟩
    have h3 : 2 ≤ q ^ k := by
      rw [e, Int.pow_succ]
      have : 1 ≤ q ^ i := Int.pow_pos (by omega)
      have : 1 * q ≤ q ^ i * q := Int.mul_le_mul_of_nonneg_right this (by omega)
      omega
    simp only [prodF, List.length_cons, Int.pow_succ]
    have h4 : (0 : Int) < 2 ^ l.length := Int.pow_pos (by decide)
    have h5 : 2 * 2 ^ l.length ≤ q ^ k * prodF l := Int.mul_le_mul h3 ih (by omega) (by omega)
    omega
theorem few_of {l : List (Int × Nat)} {n : Int} (hl : ∀ q ∈ l, Pm q.1 ∧ 1 ≤ q.2) (h : prodF l ≤ n) (hn : n < 2 ^ 60) : l.length < 1000 := by
  have h1 := prodF_len hl
  apply Classical.byContradiction
  intro w
  have h2 : (2 : Int) ^ 60 ≤ 2 ^ l.length := by
    have := Nat.pow_le_pow_right (n := 2) (by decide) (show 60 ≤ l.length by omega)
    have e : ∀ k, ((2 ^ k : Nat) : Int) = (2 : Int) ^ k := fun k => by rw [Int.natCast_pow]; rfl
    rw [← e, ← e]; omega
  omega
theorem Fac.pow {p : Int} {k : Nat} (hp : Pm p) (hk : 1 ≤ k) : Fac (p ^ k) [(p, k)] :=
  ⟨fun q hq => by rw [List.mem_singleton.mp hq]; exact ⟨hp, hk⟩, by simp, by simp [prodF]⟩
end NT

end

section
set_option autoImplicit false
set_option autoImplicit false
namespace LW
open PySem PySem.Spec PyProof.Rows L2 DL NT
section
variable {S : Store} {v l h : Int} {d : D}
@[simp] theorem is_integer_int : m_is_integer [.int v] S = .ok (.bl true) S := by
  simp [m_is_integer, f_is_integer, N_is_integer, startE, gIsi, tyName, isTy]
theorem is_whole_int : m_is_whole [.int v, .int l, .int h] S = .ok (.bl (decide (l ≤ v) && decide (v ≤ h))) S := by
  simp [m_is_whole, f_is_whole, N_is_whole, startE]
  by_cases e : l ≤ v <;> simp [e]
theorem is_integer_no (h : tyName d = some "NoneType" ∨ tyName d = some "bool" ∨ tyName d = some "str" ∨ tyName d = some "tuple" ∨ tyName d = some "list") : m_is_integer [d] S = .ok (.bl false) S := by
  rcases h with h | h | h | h | h <;> simp [m_is_integer, f_is_integer, N_is_integer, startE, gIsi, isTy, h]
theorem is_whole_no {a b : D} (h : m_is_integer [d] S = .ok (.bl false) S) : m_is_whole [d, a, b] S = .ok (.bl false) S := by
  simp [m_is_whole, f_is_whole, N_is_whole, startE, h]
theorem need_whole_int (h1 : l ≤ v) (h2 : v ≤ h) : m_need_whole [.int v, .int l, .int h] S = .ok .non S := by
  simp [m_need_whole, f_need_whole, N_need_whole, startE, is_whole_int, h1, h2]
end

theorem power_in {S : Store} {a g : Int} {t : Nat} (hg : 0 < g) (gs : g.natAbs < 2 ^ 1000) (ht : t < 2 ^ 1000) : m_power_in [.int a, .int t, .int g] S = .ok (.int (a ^ t % g)) S := by
  have key := while_rule (c := wc1_power_in fuel) (b := wb1_power_in fuel)
    (Q := fun E S' => S' = S ∧ ∃ a' b d e f : Int, E = [some (.fz (.int a')), some (.fz (.int b)), some (.fz (.int g)), some (.fz (.int d)), some (.fz (.int e)), some (.fz (.int f))] ∧ d % g = a ^ t % g)
    (fun m E S' => S' = S ∧ ∃ (b d e : Int) (f : Nat), E = [some (.fz (.int a)), some (.fz (.int b)), some (.fz (.int g)), some (.fz (.int d)), some (.fz (.int e)), some (.fz (.int f))] ∧ d * e ^ f % g = a ^ t % g ∧ d.natAbs < 2 ^ 1000 ∧ e.natAbs < 2 ^ 1000 ∧ f < 2 ^ m)
    (by
      rintro m E S' ⟨rfl, b, d, e, f, rfl, h1, h2, h3, h4⟩
      by_cases hf : f = 0
      · subst hf
        refine .inl ⟨S', by simp [wc1_power_in], rfl, a, b, d, e, 0, rfl, by simpa using h1⟩
      · have hf : 0 < f := by omega
        have hm : m ≠ 0 := fun z => by subst z; simp at h4; omega
        obtain ⟨m, rfl⟩ := Nat.exists_eq_succ_of_ne_zero hm
        have mde := mulOk_s h2 h3 (by decide)
        have mee := mulOk_s h3 h3 (by decide)
        refine .inr ⟨S', [some (.fz (.int a)), some (.fz (.int b)), some (.fz (.int g)), some (.fz (.int (if (f : Int) % 2 = 1 then d * e % g else d))), some (.fz (.int (e * e % g))), some (.fz (.int (f / 2 : Nat)))], S', m, by simp [wc1_power_in, hf], ?_, by omega, rfl, b, _, _, f / 2, rfl, ?_, ?_, emod_abs hg gs, ?_⟩
        · by_cases e1 : (f : Int) % 2 = 1 <;> simp [wb1_power_in, o_mod hg, o_mod (show (0:Int) < 2 by decide), o_div (show (0:Int) < 2 by decide) (by decide), o_mul mde, o_mul mee, e1]
        · rw [pow_turn, h1]
        · split
          · exact emod_abs hg gs
          · exact h2
        · rw [Nat.pow_succ] at h4; omega)
    1000 fuel [some (.fz (.int a)), some (.fz (.int t)), some (.fz (.int g)), some (.fz (.int 1)), some (.fz (.int (a % g))), some (.fz (.int t))] S (by decide)
    ⟨rfl, t, 1, a % g, t, rfl, by rw [Int.one_mul, powm], Nat.one_lt_two_pow (by decide), emod_abs hg gs, ht⟩
  obtain ⟨E', S', k1, rfl, x1, x2, x3, x4, x5, rfl, k2⟩ := key
  simp [m_power_in, f_power_in, N_power_in, startE, o_mod hg, k1, k2]

/-! ### the draws -/
def Cup (S : Store) : Prop := ∃ c r : Int, S = [.tbl "_law_shapes_right" lamq__law_shapes_right, .tbl "_law_numbers_right" lamq__law_numbers_right, .lst [.int c, .int r]] ∧ 0 ≤ c ∧ 0 ≤ r
theorem law_cup {ns : List Int} (hn : ns.length ≤ 63) : ∃ S, m__law_cup [.scr ns] (tblS tfL) = .ok (.hd 2) S ∧ Cup S := by
  rw [show tblS tfL = [.tbl "_law_shapes_right" lamq__law_shapes_right, .tbl "_law_numbers_right" lamq__law_numbers_right] from rfl]
  have hx : ∃ x : Int, atI (ns.map D.int ++ [D.int 0]) 0 = some (.int x) := by
    cases ns with
    | nil => exact ⟨0, rfl⟩
    | cons a l => exact ⟨a, by have : (0:Int) < (l.length:Int) + 1 + 1 := by omega
                               simp [atI, ixN, this]⟩
  obtain ⟨x, hx⟩ := hx
  have hl : gAdd (.lst (ns.map D.int)) (.lst [.int 0]) = some (.lst (ns.map D.int ++ [.int 0])) := by
    unfold gAdd
    simp only [List.length_map, List.length_cons, List.length_nil]
    rw [if_pos (by unfold sizeLine; omega)]
  have hi : gIx (.lst (ns.map D.int ++ [D.int 0])) (.int 0) = some (.int x) := hx
  have m283 : ∀ z : Int, mulOk z 283 = true := fun z => mulOk_r (by decide)
  have ha : ∃ y : Int, 0 ≤ y ∧ gAbs [.int x] = some (.int y) := ⟨_, by split <;> omega, rfl⟩
  obtain ⟨y, hy, ha⟩ := ha
  have hp : gPow (.int 10) (.int 18) = some (.int 1000000000000000000) := by rw [o_pow (by decide) (by decide) (by decide)]; rfl
  by_cases e : 1000000000000000000 ≤ y
  · refine ⟨_, by simp [m__law_cup, f__law_cup, N__law_cup, startE, gList, hl, hi, ha, hp, e, fRetH, gInt, o_mul (m283 y), o_div (show (0:Int) < 73 by decide) (by decide), o_mod (show (0:Int) < 2077503167 by decide)]; exact ⟨rfl, rfl⟩, _, _, rfl, by omega, by omega⟩
  · refine ⟨_, by simp [m__law_cup, f__law_cup, N__law_cup, startE, gList, hl, hi, ha, hp, e, fRetH, gInt, o_mul (m283 y), o_div (show (0:Int) < 73 by decide) (by decide), o_mod (show (0:Int) < 2077503167 by decide)]; exact ⟨rfl, rfl⟩, _, _, rfl, by omega, by omega⟩
theorem law_roll {S : Store} {k : Int} (h : Cup S) (h0 : 0 < k) (h1 : k < 2 ^ 64) : ∃ (x : Int) (S' : Store), m__law_roll [.hd 2, .int k] S = .ok (.int x) S' ∧ Cup S' ∧ 0 ≤ x ∧ x < k := by
  obtain ⟨c, r, rfl, hc, hr⟩ := h
  have x0 : ∀ a b : D, atI [a, b] 0 = some a := fun _ _ => rfl
  have x1 : ∀ a b : D, atI [a, b] 1 = some b := fun _ _ => rfl
  have i0 : ixN 2 0 = some 0 := rfl
  have i1 : ixN 2 1 = some 1 := rfl
  have hk : k.natAbs.log2 < 9000 := by
    have := log2_le (nat_lt_of (by omega) h1)
    omega
  by_cases e : 0 < c
  · refine ⟨c % k, _, by simp [m__law_roll, f__law_roll, N__law_roll, startE, fIxH, fSetIxH, x0, x1, i0, i1, e, gInt, o_mod h0, o_div h0 hk], ⟨c / k, r, rfl, Int.ediv_nonneg hc (by omega), hr⟩, Int.emod_nonneg _ (by omega), Int.emod_lt_of_pos _ h0⟩
  · let y := (r * 31051 + 7993) % 2147483543
    have ey : (r * 31051 + 7993) % 2147483543 = y := rfl
    have y0 : 0 ≤ y := Int.emod_nonneg _ (by decide)
    have y1 : y < 2147483543 := Int.emod_lt_of_pos _ (by decide)
    have m1 : mulOk r 31051 = true := mulOk_r (by decide)
    have m2 : mulOk y (y + 229) = true := mulOk_l (by omega)
    refine ⟨(y * (y + 229)) % 2147483587 / 821 % k, _, by simp [m__law_roll, f__law_roll, N__law_roll, startE, fIxH, fSetIxH, x0, x1, i0, i1, e, gInt, o_mod h0, o_mod (show (0:Int) < 2147483543 by decide), o_mod (show (0:Int) < 2147483587 by decide), o_div (show (0:Int) < 821 by decide) (by decide), o_mul m1, ey, o_mul m2], ⟨c, y, rfl, hc, y0⟩, Int.emod_nonneg _ (by omega), Int.emod_lt_of_pos _ h0⟩

/-! ### sorts, and likeness -/
def sortD : D → Int
  | .non => 0
  | .bl _ => 1
  | .int _ => 2
  | .str _ => 3
  | .tup _ => 4
  | .lst _ => 5
  | _ => 6
theorem law_sort {S : Store} {d : D} (h : tyName d ≠ none) : m__law_sort [d] S = .ok (.int (sortD d)) S := by
  cases d <;> first | (exfalso; exact h rfl) | simp [m__law_sort, f__law_sort, N__law_sort, startE, gIs, gIsi, tyName, isTy, sortD]
section
variable {S : Store} {l : List D} {i : Int} {b : Bool} {t : Str}
@[simp] theorem so_non : m__law_sort [.non] S = .ok (.int 0) S := law_sort (by decide)
@[simp] theorem so_bl : m__law_sort [.bl b] S = .ok (.int 1) S := law_sort (by simp [tyName])
@[simp] theorem so_int : m__law_sort [.int i] S = .ok (.int 2) S := law_sort (by simp [tyName])
@[simp] theorem so_str : m__law_sort [.str t] S = .ok (.int 3) S := law_sort (by simp [tyName])
@[simp] theorem so_tup : m__law_sort [.tup l] S = .ok (.int 4) S := law_sort (by simp [tyName])
@[simp] theorem so_lst : m__law_sort [.lst l] S = .ok (.int 5) S := law_sort (by simp [tyName])
end
theorem eq_non : gEq .non .non = some (.bl true) := rfl
theorem eq_str {t : Str} : gEq (.str t) (.str t) = some (.bl true) := by simp [gEq, eqD, scalD]
/-- data without references, of small depth -/
def plainD : Nat → D → Bool
  | _, .non => true
  | _, .bl _ => true
  | _, .int _ => true
  | _, .str _ => true
  | k + 1, .tup l => decide (l.length ≤ 1000000) && l.all (plainD k)
  | k + 1, .lst l => decide (l.length ≤ 1000000) && l.all (plainD k)
  | _, _ => false
theorem zip_none {S : Store} {mr : MF} {a b c : Option Sl} : ∀ {l : List D}, (∀ d ∈ l, ∀ S, mr [d, d] S = .ok (.bl true) S) →
    lcL (gT (gConss (gN 3) (gConss (gN 4) gNils))) (lt1__law_like mr fuel) (le1__law_like fuel) (zipD l l) [a, b, c, none, none] S = .ok [] S
  | [], _ => rfl
  | d :: l, h => by
    have ih := zip_none (S := S) (a := a) (b := b) (c := c) (fun x hx => h x (List.mem_cons_of_mem _ hx))
    have hd := h d (List.mem_cons_self ..)
    have g0 : gT (gConss (gN 3) (gConss (gN 4) gNils)) (.tup [d, d]) [a, b, c, none, none] = some [a, b, c, some (.fz d), some (.fz d)] := rfl
    have hc : lt1__law_like mr fuel [a, b, c, some (.fz d), some (.fz d)] S = .ok false S := by simp [lt1__law_like, hd]
    simp only [zipD, lcL, g0, hc, e_bindN_ok]
    exact ih
theorem zip_short (l : List D) : (zipD l l).length = l.length := by rw [zipD_len]; omega
theorem eq_nil : gEq (.lst []) (.lst []) = some (.bl true) := by
  have h : SeqAt.shaped (PyData.list []) = true := by decide +kernel
  simp [gEq, eqD, scalD, deepD, D.py, D.pys, PyData.eqv, PyData.eqvAll, h]
theorem in45 {j : Int} : gIn (.int j) (.tup [.int 4, .int 5]) = some (.bl (4 == j || 5 == j)) := by
  simp [gIn, gInB, flatD, inF, eqF]
theorem like_self : ∀ {k : Nat} {d : D} {S : Store}, plainD k d = true → mk__law_like (k + 1) [d, d] S = .ok (.bl true) S := by
  intro k
  induction k with
  | zero =>
    intro d S h
    cases d <;> first | (cases h; done) | simp [mk__law_like, f__law_like, N__law_like, startE, in45, eq_non, eq_str]
  | succ k ih =>
    intro d S h
    rw [mk__law_like]
    cases d with
    | tup l =>
      simp only [plainD, Bool.and_eq_true, List.all_eq_true, decide_eq_true_eq] at h
      simp [f__law_like, N__law_like, startE, in45, gLen, zip?, wipeE, fLc, zip_short, h.1, zip_none (fun d hd S => ih (h.2 d hd)), eq_nil]
    | lst l =>
      simp only [plainD, Bool.and_eq_true, List.all_eq_true, decide_eq_true_eq] at h
      simp [f__law_like, N__law_like, startE, in45, gLen, zip?, wipeE, fLc, zip_short, h.1, zip_none (fun d hd S => ih (h.2 d hd)), eq_nil]
    | non => simp [f__law_like, N__law_like, startE, in45, eq_non, eq_str]
    | int i => simp [f__law_like, N__law_like, startE, in45, eq_non, eq_str]
    | bl i => simp [f__law_like, N__law_like, startE, in45, eq_non, eq_str]
    | str i => simp [f__law_like, N__law_like, startE, in45, eq_non, eq_str]
    | _ => cases h
theorem like {d : D} {S : Store} (h : plainD 7 d = true) : m__law_like [d, d] S = .ok (.bl true) S := like_self h

theorem law_power {S : Store} {a g : Int} {t : Nat} (hg : 0 < g) (gs : g.natAbs < 2 ^ 1000) (ht : t < 2 ^ 1000) : m__law_power [.int a, .int t, .int g] S = .ok (.int (a ^ t % g)) S := by
  have key := while_rule (c := wc1__law_power fuel) (b := wb1__law_power fuel)
    (Q := fun E S' => S' = S ∧ ∃ a' b d e : Int, E = [some (.fz (.int a')), some (.fz (.int b)), some (.fz (.int g)), some (.fz (.int d)), some (.fz (.int e))] ∧ d % g = a ^ t % g)
    (fun m E S' => S' = S ∧ ∃ (d e : Int) (f : Nat), E = [some (.fz (.int a)), some (.fz (.int f)), some (.fz (.int g)), some (.fz (.int d)), some (.fz (.int e))] ∧ d * e ^ f % g = a ^ t % g ∧ d.natAbs < 2 ^ 1000 ∧ e.natAbs < 2 ^ 1000 ∧ f < 2 ^ m)
    (by
      rintro m E S' ⟨rfl, d, e, f, rfl, h1, h2, h3, h4⟩
      by_cases hf : f = 0
      · subst hf
        refine .inl ⟨S', by simp [wc1__law_power], rfl, a, 0, d, e, rfl, by simpa using h1⟩
      · have hf : 0 < f := by omega
        have hm : m ≠ 0 := fun z => by subst z; simp at h4; omega
        obtain ⟨m, rfl⟩ := Nat.exists_eq_succ_of_ne_zero hm
        have mde := mulOk_s h2 h3 (by decide)
        have mee := mulOk_s h3 h3 (by decide)
        refine .inr ⟨S', [some (.fz (.int a)), some (.fz (.int (f / 2 : Nat))), some (.fz (.int g)), some (.fz (.int (if (f : Int) % 2 = 1 then d * e % g else d))), some (.fz (.int (e * e % g)))], S', m, by simp [wc1__law_power, hf], ?_, by omega, rfl, _, _, f / 2, rfl, ?_, ?_, emod_abs hg gs, ?_⟩
        · by_cases e1 : (f : Int) % 2 = 1 <;> simp [wb1__law_power, gInt, o_mod hg, o_mod (show (0:Int) < 2 by decide), o_div (show (0:Int) < 2 by decide) (by decide), o_mul mde, o_mul mee, e1]
        · rw [pow_turn, h1]
        · split
          · exact emod_abs hg gs
          · exact h2
        · rw [Nat.pow_succ] at h4; omega)
    1000 fuel [some (.fz (.int a)), some (.fz (.int t)), some (.fz (.int g)), some (.fz (.int 1)), some (.fz (.int (a % g)))] S (by decide)
    ⟨rfl, 1, a % g, t, rfl, by rw [Int.one_mul, powm], Nat.one_lt_two_pow (by decide), emod_abs hg gs, ht⟩
  obtain ⟨E', S', k1, rfl, x1, x2, x3, x4, rfl, k2⟩ := key
  simp [m__law_power, f__law_power, N__law_power, startE, gInt, o_mod hg, k1, k2]

theorem law_some {S : Store} {l : List D} (hc : Cup S) (h0 : 0 < l.length) (h1 : l.length < 2 ^ 60) : ∃ S' d, Cup S' ∧ d ∈ l ∧ m__law_some [.hd 2, .lst l] S = .ok d S' := by
  obtain ⟨x, S', r1, r2, r3, r4⟩ := law_roll hc (k := l.length) (by omega) (by omega)
  have hx : x.toNat < l.length := by omega
  refine ⟨S', l[x.toNat], r2, List.getElem_mem hx, ?_⟩
  have gl : gLen [.lst l] = some (.int l.length) := rfl
  have gi : gIx (.lst l) (.int x) = some l[x.toNat] := by
    show atI l x = _
    unfold atI
    have : ixN l.length x = some x.toNat := by
      unfold ixN
      rw [if_pos r3, if_pos r4]
    rw [this]
    exact List.getElem?_eq_getElem hx
  simp [m__law_some, f__law_some, N__law_some, startE, gl, r1, gi]

theorem lf_loop {S : Store} {n : Int} {x : Option Sl} (n0 : 2 ≤ n) (hn : n < 2 ^ 60) (n2 : n % 2 ≠ 0) (n3 : n % 3 ≠ 0) {r : Int} (hr : LD n r) : ∀ (k : Nat) (p : Int), p % 6 = 5 → 5 ≤ p → p ≤ n + 6 → n + 6 - p ≤ k → (∀ d, 2 ≤ d → d < p → ¬ d ∣ n) → ∀ m, k < m →
    bodyR (thenF (whileL (wc1_least_factor fuel) (wb1_least_factor fuel) m [some (.fz (.int n)), x, some (.fz (.int p))] S) (fRet (fVar 0)) fuel) = .ok (.int r) S
  | k, p, h6, h5, h1, h2, hd, m + 1, hm => by
    have mk : mulOk p p = true := mulOk_l (by omega)
    by_cases c1 : p * p ≤ n
    · have hp : p * 5 ≤ p * p := Int.mul_le_mul_of_nonneg_left (by omega) (by omega)
      cases k with
      | zero => omega
      | succ k =>
        by_cases c2 : n % p = 0
        · have e : r = p := hr.uniq ⟨by omega, Int.dvd_of_emod_eq_zero c2, hd⟩
          subst e
          simp [wc1_least_factor, wb1_least_factor, whileL, o_mul mk, c1, o_mod (by omega : 0 < r), c2]
        · have d1 : ¬ (p + 1) ∣ n := dvd_of_two (by omega) n2
          have hd2 : ∀ d, 2 ≤ d → d < p + 2 → ¬ d ∣ n := fun d a b => by
            rcases (by omega : d < p ∨ d = p ∨ d = p + 1) with z | z | z
            · exact hd d a z
            · subst z; exact not_dvd_of c2
            · subst z; exact d1
          by_cases c3 : n % (p + 2) = 0
          · have e : r = p + 2 := hr.uniq ⟨by omega, Int.dvd_of_emod_eq_zero c3, hd2⟩
            subst e
            simp [wc1_least_factor, wb1_least_factor, whileL, o_mul mk, c1, o_mod (by omega : 0 < p), o_mod (by omega : 0 < p + 2), c2, c3]
          · have hd6 : ∀ d, 2 ≤ d → d < p + 6 → ¬ d ∣ n := fun d a b => by
              rcases (by omega : d < p + 2 ∨ d = p + 2 ∨ d = p + 3 ∨ d = p + 4 ∨ d = p + 5) with z | z | z | z | z
              · exact hd2 d a z
              · subst z; exact not_dvd_of c3
              · exact dvd_of_two (by omega) n2
              · exact dvd_of_three (by omega) n3
              · exact dvd_of_two (by omega) n2
            have ih := lf_loop (S := S) (x := x) n0 hn n2 n3 hr k (p + 6) (by omega) (by omega) (by omega) (by omega) hd6 m (by omega)
            simp [wc1_least_factor, wb1_least_factor, whileL, o_mul mk, c1, o_mod (by omega : 0 < p), o_mod (by omega : 0 < p + 2), c2, c3]
            simpa [wc1_least_factor, wb1_least_factor] using ih
    · have e : r = n := hr.uniq (LD.end n0 (by omega) (by omega) hd)
      subst e
      simp [wc1_least_factor, wb1_least_factor, whileL, o_mul mk, c1]
theorem least_factor {S : Store} {n r : Int} (n0 : 2 ≤ n) (hn : n < 2 ^ 60) (hr : LD n r) : m_least_factor [.int n] S = .ok (.int r) S := by
  by_cases c1 : n % 2 = 0
  · have e : r = 2 := hr.uniq ⟨by omega, Int.dvd_of_emod_eq_zero c1, fun d a b => by omega⟩
    subst e
    simp [m_least_factor, f_least_factor, N_least_factor, startE, fIt, fb1_least_factor, e_forL_cons, o_mod (show (0:Int) < 2 by decide), c1]
  · have n2 : ∀ d, 2 ≤ d → d < 3 → ¬ d ∣ n := fun d a b => by
      have : d = 2 := by omega
      subst this; exact not_dvd_of c1
    by_cases c2 : n % 3 = 0
    · have e : r = 3 := hr.uniq ⟨by omega, Int.dvd_of_emod_eq_zero c2, n2⟩
      subst e
      simp [m_least_factor, f_least_factor, N_least_factor, startE, fIt, fb1_least_factor, e_forL_cons, o_mod (show (0:Int) < 2 by decide), o_mod (show (0:Int) < 3 by decide), c1, c2]
    · have n5 : ∀ d, 2 ≤ d → d < 5 → ¬ d ∣ n := fun d a b => by
        rcases (by omega : d < 3 ∨ d = 3 ∨ d = 4) with z | z | z
        · exact n2 d a z
        · subst z; exact not_dvd_of c2
        · exact dvd_of_two (by omega) c1
      have := lf_loop (S := S) (x := some (.fz (.int 3))) n0 hn c1 c2 hr (n + 1).toNat 5 (by decide) (by decide) (by omega) (by omega) n5 fuel (by unfold fuel; omega)
      simp [m_least_factor, f_least_factor, N_least_factor, startE, fIt, fb1_least_factor, e_forL_cons, o_mod (show (0:Int) < 2 by decide), o_mod (show (0:Int) < 3 by decide), c1, c2]
      simpa using this
theorem is_prime_in {S : Store} {n : Int} (hn : n < 2 ^ 60) : m_is_prime_in [.int n] S = .ok (.bl (pmb n)) S := by
  by_cases c : 1 < n
  · obtain ⟨r, hr⟩ := ex_LD (show 2 ≤ n by omega)
    simp [m_is_prime_in, f_is_prime_in, N_is_prime_in, startE, least_factor (by omega : 2 ≤ n) hn hr, c, hr.pmb (by omega)]
  · simp [m_is_prime_in, f_is_prime_in, N_is_prime_in, startE, c, pmb_small (by omega : n < 2)]

end LW

end

section
set_option autoImplicit false
set_option autoImplicit false
namespace LW
open PySem PySem.Spec PyProof.Rows L2 DL NT HZ
section
variable {c r : Int}
/-- the store: the tables, the script's cup -/
abbrev SC (c r : Int) : Store := [.tbl "_law_shapes_right" lamq__law_shapes_right, .tbl "_law_numbers_right" lamq__law_numbers_right, .lst [.int c, .int r]]
theorem shapes_0 : m__law_shapes_right [.non] (SC c r) = .ok (.bl true) (SC c r) := by kernel_rfl
theorem numbers_0 : m__law_numbers_right [.non] (SC c r) = .ok (.bl true) (SC c r) := by kernel_rfl
theorem shapes_1 : m__law_shapes_right [.str "odd"] (SC c r) = .ok (.bl true) (SC c r) := by kernel_rfl
theorem numbers_1 : m__law_numbers_right [.str "odd"] (SC c r) = .ok (.bl true) (SC c r) := by kernel_rfl
theorem shapes_2 : m__law_shapes_right [.lst []] (SC c r) = .ok (.bl true) (SC c r) := by kernel_rfl
theorem numbers_2 : m__law_numbers_right [.lst []] (SC c r) = .ok (.bl true) (SC c r) := by kernel_rfl
theorem shapes_3 : m__law_shapes_right [.bl true] (SC c r) = .ok (.bl true) (SC c r) := by kernel_rfl
theorem numbers_3 : m__law_numbers_right [.bl true] (SC c r) = .ok (.bl true) (SC c r) := by kernel_rfl
theorem shapes_4 : m__law_shapes_right [.tup [.non]] (SC c r) = .ok (.bl true) (SC c r) := by kernel_rfl
theorem numbers_4 : m__law_numbers_right [.tup [.non]] (SC c r) = .ok (.bl true) (SC c r) := by kernel_rfl
theorem shapes_5 : m__law_shapes_right [.int (-1)] (SC c r) = .ok (.bl true) (SC c r) := by kernel_rfl
theorem numbers_5 : m__law_numbers_right [.int (-1)] (SC c r) = .ok (.bl true) (SC c r) := by kernel_rfl
theorem errors_ok {S : Store} {d : D} (hc : Cup S) (hd : d ∈ ([.non, .str "odd", .lst [], .bl true, .tup [.non], .int (-1)] : List D)) : m__law_shapes_right [d] S = .ok (.bl true) S ∧ m__law_numbers_right [d] S = .ok (.bl true) S := by
  obtain ⟨c, r, rfl, _, _⟩ := hc
  simp only [List.mem_cons, List.mem_nil_iff, or_false] at hd
  rcases hd with rfl | rfl | rfl | rfl | rfl | rfl
  · exact ⟨shapes_0, numbers_0⟩
  · exact ⟨shapes_1, numbers_1⟩
  · exact ⟨shapes_2, numbers_2⟩
  · exact ⟨shapes_3, numbers_3⟩
  · exact ⟨shapes_4, numbers_4⟩
  · exact ⟨shapes_5, numbers_5⟩
end
end LW

end

section
set_option autoImplicit false
set_option autoImplicit false
namespace LW
open PySem PySem.Spec PyProof.Rows L2 DL NT
section
variable {S : Store} {v l h : Int} {d : D}
theorem half_in {a g : Int} (hg : 0 < g) (gs : g.natAbs < 2 ^ 1000) : m_half_in [.int a, .int g] S = .ok (.int (a ^ (g / 2).toNat % g)) S := by
  have e : g / 2 = ((g / 2).toNat : Int) := by omega
  have := power_in (S := S) (a := a) (t := (g / 2).toNat) hg gs (by omega)
  rw [← e] at this
  simp [m_half_in, f_half_in, N_half_in, startE, o_div (show (0:Int) < 2 by decide) (by decide), this]
theorem rngD_succ {lo : Int} {k : Nat} : rngD lo (k + 1) = .int lo :: rngD (lo + 1) k := by
  unfold rngD
  rw [List.range_succ_eq_map]
  simp only [List.map_cons, List.map_map]
  congr 1
  · simp
  · apply List.map_congr_left
    intro x _
    simp only [Function.comp]
    congr 1; omega
theorem above_loop {a b : D} : ∀ (k : Nat) (lo f : Int) (x : Option Sl), ∃ E', forL (gN 3) (fSet 2 (fOp gMul (fC (.int 2)) (fRd 2)) fuel) (rngD lo k) [some (.fz a), some (.fz b), some (.fz (.int f)), x] S = .nx E' S ∧ E'[2]? = some (some (.fz (.int (f * 2 ^ k))))
  | 0, lo, f, x => by simp [rngD]
  | k + 1, lo, f, x => by
    have m2 : mulOk 2 f = true := mulOk_l (by decide)
    obtain ⟨E', h1, h2⟩ := above_loop (a := a) (b := b) k (lo + 1) (2 * f) (some (.fz (.int lo)))
    refine ⟨E', ?_, ?_⟩
    · rw [rngD_succ, e_forL_cons]
      simp [o_mul m2, h1]
    · rw [h2, Int.pow_succ]; congr 4; rw [Int.mul_comm 2 f, Int.mul_assoc]; congr 1; rw [Int.mul_comm]
theorem above_in {f p : Int} (h0 : 0 ≤ p) (h1 : p < 2 ^ 62) : m_above_in [.int f, .int p] S = .ok (.int (f * 2 ^ p.toNat + 1)) S := by
  obtain ⟨E', k1, k2⟩ := above_loop (a := .int f) (b := .int p) (S := S) p.toNat 0 f none
  have sr : smallR p = true := by unfold smallR; simp; omega
  simp [fb1_above_in, m_above_in, f_above_in, N_above_in, startE, rng1?, sr, k1, k2]
theorem law_above {f p : Int} (h0 : 0 ≤ p) (h1 : p < 2 ^ 62) : m__law_above [.int f, .int p] S = .ok (.int (f * 2 ^ p.toNat + 1)) S := by
  obtain ⟨E', k1, k2⟩ := above_loop (a := .int f) (b := .int p) (S := S) p.toNat 0 f none
  have sr : smallR p = true := by unfold smallR; simp; omega
  simp [fb1__law_above, m__law_above, f__law_above, N__law_above, startE, rng1?, sr, k1, k2]
/-- what a two shape is -/
def isSh (f p : Int) : Bool := decide (1 ≤ f ∧ f % 2 = 1 ∧ 1 ≤ p ∧ p ≤ 132 ∧ f < 2 ^ p.toNat ∧ f * 2 ^ p.toNat + 1 ≤ 10 ^ 40)
theorem fits {f p : Int} : m_fits_two_shape [.int f, .int p] S = .ok (.bl (isSh f p)) S := by
  by_cases c : 1 ≤ f ∧ f ≤ 10 ^ 40 ∧ f % 2 = 1 ∧ 1 ≤ p ∧ p ≤ 132
  · obtain ⟨c1, c2, c3, c4, c5⟩ := c
    have c2' : f ≤ 10000000000000000000000000000000000000000 := c2
    by_cases e : f < 2 ^ p.toNat <;>
    simp [m_fits_two_shape, f_fits_two_shape, N_fits_two_shape, startE, is_whole_int, o_mod (show (0:Int) < 2 by decide), c1, c2', c3, c4, c5, above_in (by omega : 0 ≤ p) (by omega : p < 2 ^ 62), isSh, e]
  · have r : isSh f p = false := by
      unfold isSh
      apply decide_eq_false
      rintro ⟨a1, a2, a3, a4, a5, a6⟩
      refine c ⟨a1, ?_, a2, a3, a4⟩
      have := pow2_pos p.toNat
      have : f * 1 ≤ f * 2 ^ p.toNat := Int.mul_le_mul_of_nonneg_left (by omega) (by omega)
      omega
    rw [r]
    have c' : ¬ (1 ≤ f ∧ f ≤ 10000000000000000000000000000000000000000 ∧ f % 2 = 1 ∧ 1 ≤ p ∧ p ≤ 132) := c
    by_cases c1 : 1 ≤ f ∧ f ≤ 10000000000000000000000000000000000000000
    · by_cases c2 : f % 2 = 1
      · have c3 : ¬ (1 ≤ p ∧ p ≤ 132) := fun z => c' ⟨c1.1, c1.2, c2, z.1, z.2⟩
        have c3' : (decide (1 ≤ p) && decide (p ≤ 132)) = false := by
          rw [← Bool.decide_and]; exact decide_eq_false c3
        simp [m_fits_two_shape, f_fits_two_shape, N_fits_two_shape, startE, is_whole_int, o_mod (show (0:Int) < 2 by decide), c1.1, c1.2, c2, c3']
      · have c2' : f % 2 = 0 := by omega
        simp [m_fits_two_shape, f_fits_two_shape, N_fits_two_shape, startE, is_whole_int, o_mod (show (0:Int) < 2 by decide), c1.1, c1.2, c2']
    · have c1' : (decide (1 ≤ f) && decide (f ≤ 10000000000000000000000000000000000000000)) = false := by
        rw [← Bool.decide_and]; exact decide_eq_false c1
      simp [m_fits_two_shape, f_fits_two_shape, N_fits_two_shape, startE, is_whole_int, c1']
end
/-! ### the draws -/
section
variable {S : Store} {l : List D} {i : Int} {b : Bool} {t : Str}
end
theorem law_half {S : Store} {b g : Int} (g1 : 3 ≤ g) (g2 : g ≤ 10 ^ 40) (go : g % 2 = 1) : m__law_half [.int b, .int g] S = .ok (.int (b ^ (g / 2).toNat % g)) S := by
  have hg : 0 < g := by omega
  have e : (g - 1) / 2 = ((g / 2).toNat : Int) := by omega
  have h10 : (10:Int)^40 < 2 ^ 1000 := by decide +kernel
  have h := law_power (S := S) (a := b % g) (g := g) (t := (g / 2).toNat) hg (nat_lt_of (by omega) (by omega)) (by have := nat_lt_of (a := g) (k := 1000) (by omega) (by omega); omega)
  have e2 : (((g / 2).toNat : Nat) : Int) = (g - 1) / 2 := e.symm
  rw [e2] at h
  simp [m__law_half, f__law_half, N__law_half, startE, gInt, o_mod hg, o_div (show (0:Int) < 2 by decide) (by decide), h, powm]
theorem isSh_of {f : Int} {p : Nat} (f1 : 1 ≤ f) (f2 : f % 2 = 1) (f3 : f < 2 ^ p) (f4 : f < 2 ^ 21) (p1 : 1 ≤ p) (p2 : p ≤ 110) : isSh f p = true := by
  unfold isSh
  apply decide_eq_true
  have h1 := pow2_mono p2
  have h2 := pow2_pos p
  have h3 : f * 2 ^ p ≤ 2 ^ 21 * 2 ^ p := Int.mul_le_mul_of_nonneg_right (by omega) (by omega)
  have h4 : (2:Int) ^ 21 * 2 ^ p ≤ 2 ^ 21 * 2 ^ 110 := Int.mul_le_mul_of_nonneg_left h1 (by omega)
  refine ⟨f1, f2, by omega, by omega, by simpa using f3, ?_⟩
  have e : ((p : Int)).toNat = p := by omega
  rw [e]; omega
theorem plain_bl {b : Bool} : plainD 7 (.bl b) = true := rfl
theorem plain_int {b : Int} : plainD 7 (.int b) = true := rfl
theorem isSh_great {f : Int} {p : Int} (h : isSh f p = true) : 1 ≤ f ∧ f % 2 = 1 ∧ 1 ≤ p ∧ p ≤ 132 ∧ 3 ≤ f * 2 ^ p.toNat + 1 ∧ f * 2 ^ p.toNat + 1 ≤ 10 ^ 40 ∧ (f * 2 ^ p.toNat + 1) % 2 = 1 := by
  unfold isSh at h
  obtain ⟨a1, a2, a3, a4, a5, a6⟩ := of_decide_eq_true h
  obtain ⟨q, hq⟩ : ∃ q, p.toNat = q + 1 := ⟨p.toNat - 1, by omega⟩
  have e : f * 2 ^ p.toNat = 2 * (f * 2 ^ q) := by rw [hq, Int.pow_succ, Int.mul_comm (2 ^ q) 2, ← Int.mul_assoc, ← Int.mul_assoc, Int.mul_comm f 2]
  have q0 := pow2_pos q
  have : 1 * 2 ^ q ≤ f * 2 ^ q := Int.mul_le_mul_of_nonneg_right a1 (by omega)
  exact ⟨a1, a2, a3, a4, by omega, a6, by omega⟩
end LW

end

section
set_option autoImplicit false
set_option autoImplicit false
namespace LW
open PySem PySem.Spec PyProof.Rows L2 DL NT
/-! ### signs -/
theorem in35 {j : Int} : gIn (.int j) (.tup [.int 3, .int 5]) = some (.bl (decide (j = 3 ∨ j = 5))) := by
  have h : gIn (.int j) (.tup [.int 3, .int 5]) = some (.bl (3 == j || 5 == j)) := by simp [gIn, gInB, flatD, inF, eqF]
  rw [h]
  by_cases a : j = 3
  · subst a; rfl
  · by_cases c : j = 5
    · subst c; rfl
    · have a' : ¬ 3 = j := fun z => a z.symm
      have c' : ¬ 5 = j := fun z => c z.symm
      simp [a, c, a', c']
/-- the inner loop of the program's sign -/
theorem tw_loop {S : Store} {x0 x1 : Option Sl} {b : Int} : ∀ (k : Nat) (t s : Int) (m : Nat), 0 < t → t ≤ k → k < m →
    whileL (fBool (fOp gEq (fOp gMod (fRd 3) (fC (.int 2))) (fC (.int 0))) fuel) (fSeq (fSet 3 (fOp gDiv (fRd 3) (fC (.int 2)))) (fSet 2 (fIf (fBool (fOp gIn (fOp gMod (fRd 4) (fC (.int 8))) (fTup (fCons (fC (.int 3)) (fCons (fC (.int 5)) fNil))))) (fUn gNeg (fVar 2)) (fVar 2))) fuel) m
      [x0, x1, some (.fz (.int s)), some (.fz (.int t)), some (.fz (.int b))] S = .nx [x0, x1, some (.fz (.int (tw b k t s).2)), some (.fz (.int (tw b k t s).1)), some (.fz (.int b))] S
  | 0, t, s, m, h, hk, _ => by omega
  | k + 1, t, s, m + 1, h, hk, hm => by
    by_cases c : t % 2 = 0
    · have ih := tw_loop (S := S) (x0 := x0) (x1 := x1) (b := b) k (t / 2) (fl b s) m (by omega) (by omega) (by omega)
      by_cases d : b % 8 = 3 ∨ b % 8 = 5 <;> simp [fl, d] at ih <;> simp [whileL, tw, c, fl, d, o_mod (show (0:Int) < 2 by decide), o_mod (show (0:Int) < 8 by decide), o_div (show (0:Int) < 2 by decide) (by decide), in35, ih]
    · simp [whileL, tw, c, o_mod (show (0:Int) < 2 by decide)]
/-- the inner loop of the law's sign -/
theorem tw_loopL {S : Store} {x0 x1 : Option Sl} {b : Int} : ∀ (k : Nat) (t s : Int) (m : Nat), 0 < t → t ≤ k → k < m →
    whileL (fBool (fOp gEq (fOp gMod (fCB gInt (fCons (fRd 3) fNil)) (fC (.int 2))) (fC (.int 0))) fuel) (fPar2 3 2 (fCons (fCB gInt (fCons (fOp gDiv (fRd 3) (fC (.int 2))) fNil)) (fCons (fIf (fBool (fOp gIn (fOp gMod (fCB gInt (fCons (fRd 4) fNil)) (fC (.int 8))) (fTup (fCons (fC (.int 3)) (fCons (fC (.int 5)) fNil))))) (fOp gSub (fC (.int 0)) (fRd 2)) (fVar 2)) fNil)) fuel) m
      [x0, x1, some (.fz (.int s)), some (.fz (.int t)), some (.fz (.int b))] S = .nx [x0, x1, some (.fz (.int (tw b k t s).2)), some (.fz (.int (tw b k t s).1)), some (.fz (.int b))] S
  | 0, t, s, m, h, hk, _ => by omega
  | k + 1, t, s, m + 1, h, hk, hm => by
    by_cases c : t % 2 = 0
    · have ih := tw_loopL (S := S) (x0 := x0) (x1 := x1) (b := b) k (t / 2) (fl b s) m (by omega) (by omega) (by omega)
      by_cases d : b % 8 = 3 ∨ b % 8 = 5 <;> simp [fl, d] at ih <;> simp [whileL, tw, c, fl, d, gInt, o_mod (show (0:Int) < 2 by decide), o_mod (show (0:Int) < 8 by decide), o_div (show (0:Int) < 2 by decide) (by decide), in35, ih]
    · simp [whileL, tw, c, gInt, o_mod (show (0:Int) < 2 by decide)]
theorem sl_loop {S : Store} {x0 x1 : Option Sl} : ∀ (k : Nat) (t b s : Int) (m : Nat), 0 ≤ t → t < k → k < m → 0 < b → t < 2 ^ 500 →
    whileL (fBool (fOp gNe (fRd 3) (fC (.int 0))) fuel) ((fSeq (fWhile (fBool (fOp gEq (fOp gMod (fRd 3) (fC (.int 2))) (fC (.int 0)))) (fSeq (fSet 3 (fOp gDiv (fRd 3) (fC (.int 2)))) (fSet 2 (fIf (fBool (fOp gIn (fOp gMod (fRd 4) (fC (.int 8))) (fTup (fCons (fC (.int 3)) (fCons (fC (.int 5)) fNil))))) (fUn gNeg (fVar 2)) (fVar 2))))) (fSeq (fSet 2 (fIf (fAndT (fBool (fOp gEq (fOp gMod (fRd 3) (fC (.int 4))) (fC (.int 3)))) (fBool (fOp gEq (fOp gMod (fRd 4) (fC (.int 4))) (fC (.int 3))))) (fUn gNeg (fVar 2)) (fVar 2))) (fPar2 3 4 (fCons (fOp gMod (fRd 4) (fRd 3)) (fCons (fVar 3) fNil))))) fuel) m
      [x0, x1, some (.fz (.int s)), some (.fz (.int t)), some (.fz (.int b))] S = .nx [x0, x1, some (.fz (.int (sl k t b s).1)), some (.fz (.int 0)), some (.fz (.int (sl k t b s).2))] S
  | 0, t, b, s, m, h, hk, _, _, _ => by omega
  | k + 1, t, b, s, m + 1, h, hk, hm, hb, ht => by
    by_cases c : t = 0
    · subst c; simp [whileL, sl]
    · obtain ⟨w1, w2, w3⟩ := tw_spec (b := b) t.toNat t s (by omega) (by omega)
      have in1 := tw_loop (S := S) (x0 := x0) (x1 := x1) (b := b) t.toNat t s fuel (by omega) (by omega) (by unfold fuel; omega)
      obtain ⟨t', ht'⟩ : ∃ t', t' = (tw b t.toNat t s).1 := ⟨_, rfl⟩
      obtain ⟨s', hs'⟩ : ∃ s', s' = (tw b t.toNat t s).2 := ⟨_, rfl⟩
      rw [← ht', ← hs'] at in1
      rw [← ht'] at w1 w2 w3
      have h1 := Int.emod_nonneg b (by omega : t' ≠ 0)
      have h2 := Int.emod_lt_of_pos b w2
      have ih := sl_loop (S := S) (x0 := x0) (x1 := x1) k (b % t') t' (rec4 t' b s') m h1 (by omega) (by omega) w2 (by omega)
      have e : sl (k + 1) t b s = sl k (b % t') t' (rec4 t' b s') := by rw [sl, if_neg c, ht', hs']
      rw [e]
      by_cases d1 : t' % 4 = 3 <;> by_cases d2 : b % 4 = 3 <;> simp [rec4, d1, d2] at ih <;> simp [whileL, c, in1, o_mod (show (0:Int) < 4 by decide), o_mod w2, d1, d2, rec4, ih]
theorem sl_loopL {S : Store} {x0 x1 : Option Sl} : ∀ (k : Nat) (t b s : Int) (m : Nat), 0 ≤ t → t < k → k < m → 0 < b → t < 2 ^ 500 →
    whileL (fBool (fOp gNe (fRd 3) (fC (.int 0))) fuel) ((fSeq (fWhile (fBool (fOp gEq (fOp gMod (fCB gInt (fCons (fRd 3) fNil)) (fC (.int 2))) (fC (.int 0)))) (fPar2 3 2 (fCons (fCB gInt (fCons (fOp gDiv (fRd 3) (fC (.int 2))) fNil)) (fCons (fIf (fBool (fOp gIn (fOp gMod (fCB gInt (fCons (fRd 4) fNil)) (fC (.int 8))) (fTup (fCons (fC (.int 3)) (fCons (fC (.int 5)) fNil))))) (fOp gSub (fC (.int 0)) (fRd 2)) (fVar 2)) fNil)))) (fSeq (fSet 2 (fIf (fAndT (fBool (fOp gEq (fOp gMod (fCB gInt (fCons (fRd 3) fNil)) (fC (.int 4))) (fC (.int 3)))) (fBool (fOp gEq (fOp gMod (fCB gInt (fCons (fRd 4) fNil)) (fC (.int 4))) (fC (.int 3))))) (fOp gSub (fC (.int 0)) (fRd 2)) (fVar 2))) (fPar2 3 4 (fCons (fOp gMod (fCB gInt (fCons (fRd 4) fNil)) (fRd 3)) (fCons (fVar 3) fNil))))) fuel) m
      [x0, x1, some (.fz (.int s)), some (.fz (.int t)), some (.fz (.int b))] S = .nx [x0, x1, some (.fz (.int (sl k t b s).1)), some (.fz (.int 0)), some (.fz (.int (sl k t b s).2))] S
  | 0, t, b, s, m, h, hk, _, _, _ => by omega
  | k + 1, t, b, s, m + 1, h, hk, hm, hb, ht => by
    by_cases c : t = 0
    · subst c; simp [whileL, sl]
    · obtain ⟨w1, w2, w3⟩ := tw_spec (b := b) t.toNat t s (by omega) (by omega)
      have in1 := tw_loopL (S := S) (x0 := x0) (x1 := x1) (b := b) t.toNat t s fuel (by omega) (by omega) (by unfold fuel; omega)
      obtain ⟨t', ht'⟩ : ∃ t', t' = (tw b t.toNat t s).1 := ⟨_, rfl⟩
      obtain ⟨s', hs'⟩ : ∃ s', s' = (tw b t.toNat t s).2 := ⟨_, rfl⟩
      rw [← ht', ← hs'] at in1
      rw [← ht'] at w1 w2 w3
      have h1 := Int.emod_nonneg b (by omega : t' ≠ 0)
      have h2 := Int.emod_lt_of_pos b w2
      have ih := sl_loopL (S := S) (x0 := x0) (x1 := x1) k (b % t') t' (rec4 t' b s') m h1 (by omega) (by omega) w2 (by omega)
      have e : sl (k + 1) t b s = sl k (b % t') t' (rec4 t' b s') := by rw [sl, if_neg c, ht', hs']
      rw [e]
      by_cases d1 : t' % 4 = 3 <;> by_cases d2 : b % 4 = 3 <;> simp [rec4, d1, d2] at ih <;> simp [whileL, c, gInt, in1, o_mod (show (0:Int) < 4 by decide), o_mod w2, d1, d2, rec4, ih]
theorem sign_in {S : Store} {a g : Int} (hg : 0 < g) (hb : g < 2 ^ 500) : m_sign_in [.int a, .int g] S = .ok (.int (sgn a g)) S := by
  have h1 := Int.emod_nonneg a (by omega : g ≠ 0)
  have h2 := Int.emod_lt_of_pos a hg
  have l := sl_loop (S := S) (x0 := some (.fz (.int a))) (x1 := some (.fz (.int g))) (g.toNat + 1) (a % g) g 1 fuel h1 (by omega) (by unfold fuel; omega) hg (by omega)
  unfold sgn
  by_cases c : (sl (g.toNat + 1) (a % g) g 1).2 = 1 <;> simp [wc1_sign_in, wb1_sign_in, wc2_sign_in, wb2_sign_in, m_sign_in, f_sign_in, N_sign_in, startE, o_mod hg, l, c]
theorem law_sign {S : Store} {a g : Int} (hg : 0 < g) (hb : g < 2 ^ 500) : m__law_sign [.int a, .int g] S = .ok (.int (sgn a g)) S := by
  have h1 := Int.emod_nonneg a (by omega : g ≠ 0)
  have h2 := Int.emod_lt_of_pos a hg
  have l := sl_loopL (S := S) (x0 := some (.fz (.int a))) (x1 := some (.fz (.int g))) (g.toNat + 1) (a % g) g 1 fuel h1 (by omega) (by unfold fuel; omega) hg (by omega)
  unfold sgn
  by_cases c : (sl (g.toNat + 1) (a % g) g 1).2 = 1 <;> simp [wc1__law_sign, wb1__law_sign, wc2__law_sign, wb2__law_sign, m__law_sign, f__law_sign, N__law_sign, startE, gInt, o_mod hg, l, c]
theorem sgn_self {g : Int} (hg : 1 < g) : sgn g g = 0 := by
  have : g ≠ 1 := by omega
  simp [sgn, sl, this]
end LW

end

section
set_option autoImplicit false

set_option autoImplicit false
namespace LW
open PySem PySem.Spec PyProof.Rows L2 DL NT
theorem square_loop {S : Store} {n : Int} : ∀ (k : Nat) (lo hi : Int) (x : Option Sl) (m : Nat), 1 ≤ lo → lo < hi → hi - lo ≤ 2 ^ k → hi < 2 ^ 1000 → k < m → lo * lo ≤ n → n < hi * hi → ∃ lo' x', 1 ≤ lo' ∧ lo' * lo' ≤ n ∧ n < (lo' + 1) * (lo' + 1) ∧ lo' < 2 ^ 1000 ∧
    whileL (fBool (fOp gGt (fOp gSub (fRd 2) (fRd 1)) (fC (.int 1))) fuel) (fSeq (fSet 3 (fOp gDiv (fOp gAdd (fRd 1) (fRd 2)) (fC (.int 2)))) (fIfS (fBool (fOp gLe (fOp gMul (fRd 3) (fRd 3)) (fRd 0))) (fSet 1 (fVar 3)) (fSet 2 (fVar 3))) fuel) m
      [some (.fz (.int n)), some (.fz (.int lo)), some (.fz (.int hi)), x] S = .nx [some (.fz (.int n)), some (.fz (.int lo')), some (.fz (.int (lo' + 1))), x'] S
  | k, lo, hi, x, m + 1, h1, h2, h3, h4, hm, h5, h6 => by
    by_cases c : 1 < hi - lo
    · cases k with
      | zero => simp at h3; omega
      | succ k =>
        have h3' : hi - lo ≤ 2 * 2 ^ k := by rw [Int.pow_succ] at h3; omega
        obtain ⟨y, hy⟩ : ∃ y, y = (lo + hi) / 2 := ⟨_, rfl⟩
        have my : mulOk y y = true := mulOk_s (nat_lt_of (a := y) (k := 1000) (by omega) (by omega)) (nat_lt_of (a := y) (k := 1000) (by omega) (by omega)) (by decide)
        by_cases c2 : y * y ≤ n
        · obtain ⟨lo', x', a, b, d, e, f⟩ := square_loop (S := S) k y hi (some (.fz (.int y))) m (by omega) (by omega) (by omega) h4 (by omega) c2 h6
          refine ⟨lo', x', a, b, d, e, ?_⟩
          simp [whileL, c, o_div (show (0:Int) < 2 by decide) (by decide), ← hy, o_mul my, c2]
          exact f
        · obtain ⟨lo', x', a, b, d, e, f⟩ := square_loop (S := S) k lo y (some (.fz (.int y))) m (by omega) (by omega) (by omega) (by omega) (by omega) h5 (by omega)
          refine ⟨lo', x', a, b, d, e, ?_⟩
          simp [whileL, c, o_div (show (0:Int) < 2 by decide) (by decide), ← hy, o_mul my, c2]
          exact f
    · have e : hi = lo + 1 := by omega
      subst e
      exact ⟨lo, x, h1, h5, h6, by omega, by simp [whileL, c]⟩
def isSq (n : Int) : Prop := ∃ q : Int, 0 ≤ q ∧ q * q = n
theorem is_square {n : Int} (hn : 1 ≤ n) (hb : n < 2 ^ 900) : ∃ b, (∀ S, m_is_square_number [.int n] S = .ok (.bl b) S) ∧ (b = true ↔ isSq n) := by
  have hb2 : (2:Int) ^ 900 < 2 ^ 1000 := by decide +kernel
  have hh : n < (n + 1) * (n + 1) := by
    have : 1 * (n + 1) ≤ (n + 1) * (n + 1) := Int.mul_le_mul_of_nonneg_right (by omega) (by omega)
    omega
  have l := fun S => square_loop (S := S) (n := n) 900 1 (n + 1) none fuel (by decide) (by omega) (by omega) (by omega) (by unfold fuel; decide) (by omega) hh
  have key : ∀ S, ∃ b, m_is_square_number [.int n] S = .ok (.bl b) S ∧ (b = true ↔ isSq n) := fun S => by
    obtain ⟨lo, x, a1, a2, a3, a4, a5⟩ := l S
    have my : mulOk lo lo = true := mulOk_s (nat_lt_of (a := lo) (k := 1000) (by omega) (by omega)) (nat_lt_of (a := lo) (k := 1000) (by omega) (by omega)) (by decide)
    refine ⟨decide (lo * lo = n), by simp [wc1_is_square_number, wb1_is_square_number, m_is_square_number, f_is_square_number, N_is_square_number, startE, a5, o_mul my], ?_⟩
    constructor
    · intro h; exact ⟨lo, by omega, of_decide_eq_true h⟩
    · rintro ⟨q, q0, e⟩
      apply decide_eq_true
      rcases Int.lt_or_le lo (n + 1) with _ | _
      · apply Classical.byContradiction
        intro z
        exact sq_not (a := lo) (F := n) (by omega) a3 (by omega) q q0 e
      · apply Classical.byContradiction
        intro z
        exact sq_not (a := lo) (F := n) (by omega) a3 (by omega) q q0 e
  by_cases h : isSq n
  · refine ⟨true, fun S => ?_, by simp [h]⟩
    obtain ⟨b, k1, k2⟩ := key S
    rw [k1, k2.mpr h]
  · refine ⟨false, fun S => ?_, by simp [h]⟩
    obtain ⟨b, k1, k2⟩ := key S
    have : b = false := by cases b with
      | false => rfl
      | true => exact absurd (k2.mp rfl) h
    rw [k1, this]
/-- the least base from 2 on whose sign is not 1 -/
theorem paper_loop {S : Store} {g : Int} (hg : 2 ≤ g) (hb : g < 2 ^ 500) : ∀ (k : Nat) (b : Int) (m : Nat), 2 ≤ b → b ≤ g → g - b ≤ k → k < m → ∃ b', b ≤ b' ∧ b' ≤ g ∧ sgn b' g ≠ 1 ∧ (∀ x, b ≤ x → x < b' → sgn x g = 1) ∧
    whileL (fBool (fOp gEq (fCall m_sign_in (fCons (fVar 1) (fCons (fVar 0) fNil))) (fC (.int 1))) fuel) (fSet 1 (fOp gAdd (fRd 1) (fC (.int 1))) fuel) m [some (.fz (.int g)), some (.fz (.int b))] S = .nx [some (.fz (.int g)), some (.fz (.int b'))] S
  | k, b, m + 1, h1, h2, h3, hm => by
    have hs := fun S => sign_in (S := S) (a := b) (g := g) (by omega) hb
    by_cases c : sgn b g = 1
    · have hne : b ≠ g := fun z => by subst z; rw [sgn_self (by omega)] at c; cases c
      cases k with
      | zero => omega
      | succ k =>
        obtain ⟨b', a1, a2, a3, a4, a5⟩ := paper_loop (S := S) hg hb k (b + 1) m (by omega) (by omega) (by omega) (by omega)
        refine ⟨b', by omega, a2, a3, fun x x1 x2 => ?_, ?_⟩
        · by_cases e : x = b
          · rw [e]; exact c
          · exact a4 x (by omega) x2
        · simp [whileL, hs, c, a5]
    · exact ⟨b, by omega, h2, c, fun x x1 x2 => by omega, by simp [whileL, hs, c]⟩
theorem paper_base {g : Int} (hg : 2 ≤ g) (hb : g < 2 ^ 500) : ∃ b, 2 ≤ b ∧ b ≤ g ∧ sgn b g ≠ 1 ∧ (∀ x, 2 ≤ x → x < b → sgn x g = 1) ∧ ∀ S, m_paper_base [.int g] S = .ok (.int b) S := by
  have key := fun S => paper_loop (S := S) hg hb (g - 2).toNat 2 fuel (by omega) hg (by omega) (by unfold fuel; omega)
  obtain ⟨b, a1, a2, a3, a4, a5⟩ := key []
  refine ⟨b, a1, a2, a3, a4, fun S => ?_⟩
  obtain ⟨c, c1, c2, c3, c4, c5⟩ := key S
  have e : c = b := by
    rcases Int.lt_trichotomy c b with h | h | h
    · exact absurd (a4 c c1 h) c3
    · exact h
    · exact absurd (c4 b a1 h) a3
  subst e
  simp [wc1_paper_base, wb1_paper_base, m_paper_base, f_paper_base, N_paper_base, startE, c5]
end LW

end

section
set_option autoImplicit false

set_option autoImplicit false
namespace LW
open PySem PySem.Spec PyProof.Rows L2 DL NT
/-- the half rest -/
def hf (b g : Int) : Int := b ^ (g / 2).toNat % g
theorem half_hf {S : Store} {b g : Int} (hg : 0 < g) (hb : g < 2 ^ 500) : m_half_in [.int b, .int g] S = .ok (.int (hf b g)) S :=
  half_in hg (nat_lt_of (by omega) (by have : (2:Int) ^ 500 < 2 ^ 1000 := by decide +kernel
                                       omega))
/-- a false paper -/
def isF (b g : Int) : Bool := decide (¬ ((hf b g = 1 ∧ sgn b g = 1) ∨ (hf b g = g - 1 ∧ sgn b g = -1)))
theorem is_false_in {S : Store} {b g : Int} (hg : 3 ≤ g) (hb : g < 2 ^ 500) : m_is_false_in [.int b, .int g] S = .ok (.bl (isF b g)) S := by
  have h1 := fun S => half_hf (S := S) (b := b) (g := g) (by omega) hb
  have h2 := fun S => sign_in (S := S) (a := b) (g := g) (by omega) hb
  by_cases c1 : hf b g = 1
  · have c2 : ¬ (1 : Int) = g - 1 := by omega
    by_cases c3 : sgn b g = 1 <;> simp [m_is_false_in, f_is_false_in, N_is_false_in, startE, h1, h2, c1, c3, isF, c2]
  · by_cases c2 : hf b g = g - 1
    · have c4 : ¬ g - 1 = 1 := by omega
      by_cases c3 : sgn b g = -1 <;> simp [m_is_false_in, f_is_false_in, N_is_false_in, startE, h1, h2, c2, c3, c4, isF]
    · simp [m_is_false_in, f_is_false_in, N_is_false_in, startE, h1, h2, c1, c2, isF]
theorem nin_pairs {r s a b c d : Int} : gNinX (.tup [.int r, .int s]) (.tup [.tup [.int a, .int b], .tup [.int c, .int d]]) = some (.bl (!((a == r && b == s) || (c == r && d == s)))) := by
  have h1 : SeqAt.shaped (.tuple [.int r, .int s]) = true := shaped_tup [r, s]
  have h2 : SeqAt.shaped (.tuple [.tuple [.int a, .int b], .tuple [.int c, .int d]]) = true := by
    unfold SeqAt.shaped
    simp [PyData.canLay0, PyData.canLayAll0, PyData.depth, PyData.depthAll]
  simp [gNinX, gInD2, D.py, D.pys, h1, h2, PyData.eqv, PyData.eqvAll]
theorem law_is_false {S : Store} {b g : Int} (h3 : 3 ≤ g) (h40 : g ≤ 10 ^ 40) (ho : g % 2 = 1) : m__law_is_false [.int b, .int g] S = .ok (.bl (isF b g)) S := by
  have hb : g < 2 ^ 500 := by
    have : (10:Int) ^ 40 < 2 ^ 500 := by decide +kernel
    omega
  have h1 := fun S => law_half (S := S) (b := b) (g := g) h3 h40 ho
  have h2 := fun S => law_sign (S := S) (a := b) (g := g) (by omega) hb
  have e : b ^ (g / 2).toNat % g = hf b g := rfl
  rw [e] at h1
  obtain ⟨R, hR⟩ : ∃ R, R = hf b g := ⟨_, rfl⟩
  obtain ⟨Z, hZ⟩ : ∃ Z, Z = sgn b g := ⟨_, rfl⟩
  have r : (!((1 == R && 1 == Z) || (g - 1 == R && (-1) == Z))) = isF b g := by
    unfold isF
    rw [← hR, ← hZ]
    by_cases c1 : R = 1
    · subst c1
      have : ¬ (1 : Int) = g - 1 := by omega
      have t : ((g - 1 == (1 : Int))) = false := by simp; omega
      by_cases c2 : Z = 1
      · subst c2; simp
      · have u : ((1 : Int) == Z) = false := by simp; omega
        simp [c2, t, u, this]
    · have u : ((1 : Int) == R) = false := by simp; omega
      by_cases c2 : R = g - 1
      · by_cases c3 : Z = -1
        · subst c2 c3; simp
        · have v : ((-1 : Int) == Z) = false := by simp; omega
          simp [c1, c3, u, v]
      · have v : ((g - 1) == R) = false := by simp; omega
        simp [c1, c2, u, v]
  rw [← hR] at h1
  rw [← hZ] at h2
  rw [← r]
  simp [m__law_is_false, f__law_is_false, N__law_is_false, startE, h1, h2, nin_pairs]
end LW

end

section
set_option autoImplicit false
set_option autoImplicit false
namespace LW
open PySem PySem.Spec PyProof.Rows L2 DL NT
theorem prime_above {g : Int} (h3 : 3 ≤ g) (ho : g % 2 = 1) (hb : g < 2 ^ 500) : ∃ b, (∀ S, m_is_prime_above [.int g] S = .ok (.bl b) S) ∧ (b = false → ∃ x, 2 ≤ x ∧ x < g ∧ isF x g = true) := by
  by_cases c : g = 3
  · subst c; exact ⟨true, fun S => by simp [m_is_prime_above, f_is_prime_above, N_is_prime_above, startE], fun z => by cases z⟩
  · have hb2 : (2:Int) ^ 500 < 2 ^ 900 := by decide +kernel
    obtain ⟨sq, q1, q2⟩ := is_square (n := g) (by omega) (by omega)
    obtain ⟨b0, p1, p2, p3, p4, p5⟩ := paper_base (g := g) (by omega) hb
    have hh := fun S => half_hf (S := S) (b := b0) (g := g) (by omega) hb
    refine ⟨!sq && decide (hf b0 g = g - 1), fun S => ?_, fun z => ?_⟩
    · cases sq <;> simp [m_is_prime_above, f_is_prime_above, N_is_prime_above, startE, c, q1, p5, hh]
    · apply Classical.byContradiction
      intro hn
      have hall : ∀ b, 2 ≤ b → b < g → (b ^ (g / 2).toNat % g = 1 ∧ sgn b g = 1) ∨ (b ^ (g / 2).toNat % g = g - 1 ∧ sgn b g = -1) := fun b b1 b2 => by
        apply Classical.byContradiction
        intro w
        exact hn ⟨b, b1, b2, by unfold isF hf; exact decide_eq_true w⟩
      obtain ⟨hp, e⟩ := NT.no_false (by omega) (by omega) ho hall p1 p2 p3 p4
      have e : hf b0 g = g - 1 := e
      rw [e] at z
      have z : sq = true := by simpa using z
      obtain ⟨q, q0, qq⟩ := q2.mp z
      have q2 : 2 ≤ q := by
        rcases Int.lt_or_le q 2 with w | w
        · have : q = 0 ∨ q = 1 := by omega
          rcases this with rfl | rfl <;> omega
        · exact w
      have q3 : q * 2 ≤ q * q := Int.mul_le_mul_of_nonneg_left q2 q0
      exact hp.2 q q2 (by omega) ⟨q, qq.symm⟩
theorem false_loop {S : Store} {a b : Option Sl} {g : Int} (h3 : 3 ≤ g) (hb : g < 2 ^ 500) {x0 : Int} (hx : isF x0 g = true) : ∀ (k : Nat) (x : Int) (m : Nat), x ≤ x0 → x0 - x ≤ k → k < m → ∃ x', x ≤ x' ∧ x' ≤ x0 ∧ isF x' g = true ∧
    whileL (fNotT (fBool (fCall m_is_false_in (fCons (fVar 3) (fCons (fVar 2) fNil)))) fuel) (fSet 3 (fOp gAdd (fRd 3) (fC (.int 1))) fuel) m [a, b, some (.fz (.int g)), some (.fz (.int x))] S = .nx [a, b, some (.fz (.int g)), some (.fz (.int x'))] S
  | k, x, m + 1, h1, h2, hm => by
    have hs := fun S => is_false_in (S := S) (b := x) h3 hb
    cases c : isF x g with
    | true => exact ⟨x, by omega, h1, c, by simp [whileL, hs, c]⟩
    | false =>
      have : x ≠ x0 := fun z => by rw [z, hx] at c; cases c
      cases k with
      | zero => omega
      | succ k =>
        obtain ⟨x', a1, a2, a3, a4⟩ := false_loop (S := S) (a := a) (b := b) h3 hb hx k (x + 1) m (by omega) (by omega) (by omega)
        exact ⟨x', by omega, a2, a3, by simp [whileL, hs, c, a4]⟩
theorem small_great {f p : Int} (h : isSh f p = true) : f * 2 ^ p.toNat + 1 < 2 ^ 500 := by
  have := isSh_great h
  have : (10:Int) ^ 40 < 2 ^ 500 := by decide +kernel
  omega
theorem need_shape {f p : Int} {S : Store} (h : isSh f p = true) : m_need_two_shape [.int f, .int p] S = .ok .non S := by
  simp [m_need_two_shape, f_need_two_shape, N_need_two_shape, startE, fits, h]
theorem shape_prime {f p g : Int} {b : Bool} (h : isSh f p = true) (hg : g = f * 2 ^ p.toNat + 1) (hb : ∀ S, m_is_prime_above [.int g] S = .ok (.bl b) S) (S : Store) : m_is_shape_prime [.int f, .int p] S = .ok (.bl b) S := by
  obtain ⟨a1, a2, a3, a4, a5, a6, a7⟩ := isSh_great h
  simp [m_is_shape_prime, f_is_shape_prime, N_is_shape_prime, startE, need_shape h, above_in (by omega : 0 ≤ p) (by omega : p < 2 ^ 62), ← hg, hb]
theorem false_paper {f p g : Int} (h : isSh f p = true) (hg : g = f * 2 ^ p.toNat + 1) : ∃ b d, (∀ S, m_is_prime_above [.int g] S = .ok (.bl b) S) ∧ (∀ S, m_false_paper [.int f, .int p] S = .ok d S) ∧
    ((b = true ∧ d = .non) ∨ (b = false ∧ ∃ x, d = .int x ∧ 2 ≤ x ∧ x < g ∧ isF x g = true)) := by
  obtain ⟨a1, a2, a3, a4, a5, a6, a7⟩ := isSh_great h
  have hs := small_great h
  rw [← hg] at a5 a6 a7 hs
  have ha := fun S => above_in (S := S) (f := f) (p := p) (by omega) (by omega)
  rw [← hg] at ha
  obtain ⟨b, b1, b2⟩ := prime_above a5 a7 hs
  cases b with
  | true => exact ⟨true, .non, b1, fun S => by simp [wc1_false_paper, wb1_false_paper, m_false_paper, f_false_paper, N_false_paper, startE, need_shape h, ha, b1], .inl ⟨rfl, rfl⟩⟩
  | false =>
    obtain ⟨x0, x1, x2, x3⟩ := b2 rfl
    have key := fun S => false_loop (S := S) (a := some (.fz (.int f))) (b := some (.fz (.int p))) a5 hs x3 (x0 - 2).toNat 2 fuel (by omega) (by omega) (by unfold fuel; omega)
    have hd : ∃ x, (2 ≤ x ∧ x < g ∧ isF x g = true) ∧ (∀ y, 2 ≤ y → y < x → isF y g = false) := by
      have : ∀ n : Nat, ∀ z : Int, z ≤ 2 + n → 2 ≤ z → z < g → isF z g = true → ∃ x, (2 ≤ x ∧ x < g ∧ isF x g = true) ∧ (∀ y, 2 ≤ y → y < x → isF y g = false) := by
        intro n
        induction n with
        | zero => intro z z1 z2 z3 z4; exact ⟨z, ⟨z2, z3, z4⟩, fun y y1 y2 => by omega⟩
        | succ n ih =>
          intro z z1 z2 z3 z4
          by_cases hex : ∃ y, 2 ≤ y ∧ y < z ∧ isF y g = true
          · obtain ⟨y, y1, y2, y3⟩ := hex
            exact ih y (by omega) y1 (by omega) y3
          · refine ⟨z, ⟨z2, z3, z4⟩, fun y y1 y2 => ?_⟩
            cases e : isF y g with
            | false => rfl
            | true => exact absurd ⟨y, y1, y2, e⟩ hex
      exact this (x0 - 2).toNat x0 (by omega) x1 x2 x3
    obtain ⟨x, hx, hl⟩ := hd
    refine ⟨false, .int x, b1, fun S => ?_, .inr ⟨rfl, x, rfl, hx⟩⟩
    have key := false_loop (S := S) (a := some (.fz (.int f))) (b := some (.fz (.int p))) a5 hs hx.2.2 (x - 2).toNat 2 fuel hx.1 (by omega) (by unfold fuel; omega)
    obtain ⟨x', k1, k2, k3, k4⟩ := key
    have e : x' = x := by
      rcases Int.lt_or_le x' x with w | w
      · rw [hl x' k1 w] at k3; cases k3
      · omega
    subst e
    simp [wc1_false_paper, wb1_false_paper, m_false_paper, f_false_paper, N_false_paper, startE, need_shape h, ha, b1, k4]
theorem is_base_int {v g : Int} {S : Store} : m_is_base_to [.int v, .int g] S = .ok (.bl (decide (2 ≤ v) && decide (v < g))) S := by
  simp [m_is_base_to, f_is_base_to, N_is_base_to, startE]
  by_cases e : 2 ≤ v <;> simp [e]
end LW

end

section
set_option autoImplicit false
set_option autoImplicit false
namespace LW
open PySem PySem.Spec PyProof.Rows L2 DL NT
theorem prime_above_pmb {f g : Int} {p : Nat} (hs : isSh f p = true) (hg : g = f * 2 ^ p + 1) (S : Store) : m_is_prime_above [.int g] S = .ok (.bl (pmb g)) S := by
  have ep : ((p : Int)).toNat = p := by omega
  have hb := small_great hs
  obtain ⟨a1, a2, a3, a4, a5, a6, a7⟩ := isSh_great hs
  have a8 : f < 2 ^ p := by
    unfold isSh at hs
    have := of_decide_eq_true hs
    rw [ep] at this; exact this.2.2.2.2.1
  rw [ep, ← hg] at hb a5 a6 a7
  by_cases c : g = 3
  · have hp : pmb g = true := by
      rw [c, pmb_iff]
      refine ⟨by decide, fun d d1 d2 d3 => ?_⟩
      have : d = 2 := by omega
      subst this; omega
    rw [hp, c]
    simp [m_is_prime_above, f_is_prime_above, N_is_prime_above, startE]
  · have hb2 : (2:Int) ^ 500 < 2 ^ 900 := by decide +kernel
    obtain ⟨sq, q1, q2⟩ := is_square (n := g) (by omega) (by omega)
    obtain ⟨b0, p1, p2, p3, p4, p5⟩ := paper_base (g := g) (by omega) hb
    have hh := fun S => half_hf (S := S) (b := b0) (g := g) (by omega) hb
    have m1 : m_is_prime_above [.int g] S = .ok (.bl (!sq && decide (hf b0 g = g - 1))) S := by
      cases sq <;> simp [m_is_prime_above, f_is_prime_above, N_is_prime_above, startE, c, q1, p5, hh]
    rw [m1]
    congr 2
    obtain ⟨q, rfl⟩ : ∃ q, p = q + 1 := ⟨p - 1, by omega⟩
    cases hpm : pmb g with
    | false =>
      have : hf b0 g ≠ g - 1 := fun z => by
        have := proth hg a1 a8 z
        rw [pmb_iff.mpr this] at hpm; cases hpm
      simp [this]
    | true =>
      have hp := pmb_iff.mp hpm
      have hsq : sq = false := by
        cases sq with
        | false => rfl
        | true =>
          obtain ⟨q, q0, qq⟩ := q2.mp rfl
          have q2' : 2 ≤ q := by
            rcases Int.lt_or_le q 2 with w | w
            · have : q = 0 ∨ q = 1 := by omega
              rcases this with rfl | rfl <;> omega
            · exact w
          have q3 : q * 2 ≤ q * q := Int.mul_le_mul_of_nonneg_left q2' q0
          exact absurd ⟨q, qq.symm⟩ (hp.2 q q2' (by omega))
      obtain ⟨s1, s2, s3⟩ := sgn_prime (a := b0) hp (by omega) a7
      have hlt : b0 < g := by
        apply Classical.byContradiction
        intro w
        have e : b0 = g := by omega
        refine pow_one_few hp (h := (g / 2).toNat) (by omega) (by omega) fun x x1 x2 => ?_
        by_cases c1 : x = 1
        · subst c1; rw [Int.one_pow]; exact ⟨0, by omega⟩
        · have := (sgn_prime (a := x) hp (by omega) a7).1.mp (p4 x (by omega) (by omega))
          exact emod_dvd_sub this
      have hm : sgn b0 g = -1 := by
        have hn : ¬ g ∣ b0 := not_dvd_small (by omega) hlt
        rw [sgn_J (by omega) a7] at p3 ⊢
        rcases hp.J_ne hn with z | z
        · exact absurd z p3
        · exact z
      have : hf b0 g = g - 1 := s2.mp hm
      simp [hsq, this]
theorem shape_prime' {f g : Int} {p : Nat} (h : isSh f p = true) (hg : g = f * 2 ^ p + 1) (S : Store) : m_is_shape_prime [.int f, .int p] S = .ok (.bl (pmb g)) S :=
  shape_prime h (by have ep : ((p : Int)).toNat = p := by omega
                    rw [ep]; exact hg) (fun S => prime_above_pmb h hg S) S
theorem shape_ep {f g : Int} {p : Nat} (hg : g = f * 2 ^ p + 1) : g = f * 2 ^ (p : Int).toNat + 1 := by
  have ep : ((p : Int)).toNat = p := by omega
  rw [ep]; exact hg
theorem proth_paper {f g : Int} {p : Nat} (h : isSh f p = true) (hg : g = f * 2 ^ p + 1) : ∃ d, (∀ S, m_proth_paper [.int f, .int p] S = .ok d S) ∧
    ((pmb g = true ∧ ∃ b, d = .int b ∧ 2 ≤ b ∧ b < g ∧ hf b g = g - 1) ∨ (pmb g = false ∧ d = .non)) := by
  obtain ⟨a1, a2, a3, a4, a5, a6, a7⟩ := isSh_great h
  have hs := small_great h
  rw [← shape_ep hg] at a5 a6 a7 hs
  have ha := fun S => above_in (S := S) (f := f) (p := p) (by omega) (by omega)
  rw [← shape_ep hg] at ha
  have b1 := fun S => prime_above_pmb h hg S
  by_cases c : g = 3
  · have hp : pmb g = true := by
      rw [c, pmb_iff]
      refine ⟨by decide, fun d d1 d2 d3 => ?_⟩
      have : d = 2 := by omega
      subst this; omega
    refine ⟨.int 2, fun S => by simp [m_proth_paper, f_proth_paper, N_proth_paper, startE, need_shape h, ha, c], .inl ⟨hp, 2, rfl, by omega, by omega, ?_⟩⟩
    rw [c]; decide
  · cases hp : pmb g with
    | false =>
      rw [hp] at b1
      exact ⟨.non, fun S => by simp [m_proth_paper, f_proth_paper, N_proth_paper, startE, need_shape h, ha, c, b1], .inr ⟨rfl, rfl⟩⟩
    | true =>
      rw [hp] at b1
      have hb2 : (2:Int) ^ 500 < 2 ^ 900 := by decide +kernel
      obtain ⟨sq, q1, q2⟩ := is_square (n := g) (by omega) (by omega)
      obtain ⟨b0, p1, p2, p3, p4, p5⟩ := paper_base (g := g) (by omega) hs
      have hh := fun S => half_hf (S := S) (b := b0) (g := g) (by omega) hs
      have m1 : m_is_prime_above [.int g] [] = .ok (.bl (!sq && decide (hf b0 g = g - 1))) [] := by
        cases sq <;> simp [m_is_prime_above, f_is_prime_above, N_is_prime_above, startE, c, q1, p5, hh]
      rw [b1] at m1
      have e : true = (!sq && decide (hf b0 g = g - 1)) := by
        injection m1 with m1; injection m1
      have e2 : hf b0 g = g - 1 := by
        have := e.symm
        simp only [Bool.and_eq_true, decide_eq_true_eq] at this
        exact this.2
      refine ⟨.int b0, fun S => by simp [m_proth_paper, f_proth_paper, N_proth_paper, startE, need_shape h, ha, c, b1, p5], .inl ⟨rfl, b0, rfl, p1, ?_, e2⟩⟩
      apply Classical.byContradiction
      intro w
      have e3 : b0 = g := by omega
      rw [e3] at e2
      unfold hf at e2
      obtain ⟨k, hk⟩ : ∃ k, (g / 2).toNat = k + 1 := ⟨(g / 2).toNat - 1, by omega⟩
      rw [hk, Int.pow_succ, Int.mul_emod_left] at e2
      omega
theorem is_proth_int {f g v : Int} {p : Nat} {S : Store} (h : isSh f p = true) (hg : g = f * 2 ^ p + 1) : m_is_proth_paper [.int f, .int p, .int v] S = .ok (.bl (decide (2 ≤ v ∧ v < g) && decide (hf v g = g - 1))) S := by
  obtain ⟨a1, a2, a3, a4, a5, a6, a7⟩ := isSh_great h
  have hs := small_great h
  rw [← shape_ep hg] at a5 a6 a7 hs
  have ha := fun S => above_in (S := S) (f := f) (p := p) (by omega) (by omega)
  rw [← shape_ep hg] at ha
  have hh := fun S => half_hf (S := S) (b := v) (g := g) (by omega) hs
  by_cases e : 2 ≤ v <;> by_cases e2 : v < g <;> simp [m_is_proth_paper, f_is_proth_paper, N_is_proth_paper, startE, need_shape h, ha, is_base_int, e, e2, hh]
theorem is_proth_no {f : Int} {p : Nat} {d : D} {S : Store} (h : isSh f p = true) (hd : ∀ S, m_is_integer [d] S = .ok (.bl false) S) : m_is_proth_paper [.int f, .int p, d] S = .ok (.bl false) S := by
  obtain ⟨a1, a2, a3, a4, a5, a6, a7⟩ := isSh_great h
  have ha := fun S => above_in (S := S) (f := f) (p := p) (by omega) (by omega)
  simp [m_is_proth_paper, f_is_proth_paper, N_is_proth_paper, startE, need_shape h, ha, m_is_base_to, f_is_base_to, N_is_base_to, hd]
/-- values that the law tries -/
def OkV (d : D) : Prop := (∃ v, d = .int v) ∨ d = .non ∨ (∃ b, d = .bl b) ∨ (∃ s, d = .str s) ∨ ∃ l, d = .tup l
theorem is_integer_okv {d : D} {S : Store} (h : OkV d) (hn : ∀ v, d ≠ .int v) : m_is_integer [d] S = .ok (.bl false) S := by
  rcases h with ⟨v, rfl⟩ | rfl | ⟨b, rfl⟩ | ⟨s, rfl⟩ | ⟨l, rfl⟩
  · exact absurd rfl (hn v)
  · exact is_integer_no (.inl rfl)
  · exact is_integer_no (.inr (.inl rfl))
  · exact is_integer_no (.inr (.inr (.inl rfl)))
  · exact is_integer_no (.inr (.inr (.inr (.inl rfl))))
theorem like_bl {b : Bool} {S : Store} : m__law_like [.bl b, .bl b] S = .ok (.bl true) S := like rfl
abbrev bRight : FS := (fSeq (fSet 10 (fAnd (fOp gEq (fCall m__law_sort (fCons (fVar 9) fNil)) (fC (.int 2))) (fAnd (fChain gLe gLt (fC (.int 2)) (fRd 9) (fRd 4)) (fOp gEq (fCall m__law_half (fCons (fVar 9) (fCons (fVar 4) fNil))) (fOp gSub (fRd 4) (fC (.int 1))))))) (fIfS (fNotT (fBool (fCall m__law_like (fCons (fCall m_is_proth_paper (fCons (fVar 1) (fCons (fVar 2) (fCons (fVar 9) fNil)))) (fCons (fVar 10) fNil))))) (fRet (fC (.bl false))) fSkip))
end LW

end

section
set_option autoImplicit false

set_option autoImplicit false
namespace LW
open PySem PySem.Spec PyProof.Rows L2 DL NT HZ
theorem is_odd_great {S : Store} {v : Int} : m_is_odd_great [.int v] S = .ok (.bl (decide (3 ≤ v ∧ v ≤ 10 ^ 40 ∧ v % 2 = 1))) S := by
  simp [m_is_odd_great, f_is_odd_great, N_is_odd_great, startE, is_whole_int, o_mod (show (0:Int) < 2 by decide)]
  by_cases a : 3 ≤ v <;> by_cases b : v ≤ 10000000000000000000000000000000000000000 <;> by_cases c : v % 2 = 1 <;> simp [a, b, c, o_mod (show (0:Int) < 2 by decide)]
theorem shape_loop {S : Store} {g : D} {fe : FE} (hfe : ∀ (i q : Int), fe fuel [some (.fz g), some (.fz (.int i)), some (.fz (.int q))] S = .ok (.int i) S) (fd : FE) (hfd : ∀ (i q : Int), fd fuel [some (.fz g), some (.fz (.int i)), some (.fz (.int q))] S = .ok (.int (i / 2)) S) {f : Int} (hf : f % 2 = 1) : ∀ (p : Nat) (q : Int) (n : Nat), p < n →
    whileL (fBool (fOp gEq (fOp gMod fe (fC (.int 2))) (fC (.int 0))) fuel) (fPar2 1 2 (fCons fd (fCons (fOp gAdd (fRd 2) (fC (.int 1))) fNil)) fuel) n [some (.fz g), some (.fz (.int (f * 2 ^ p))), some (.fz (.int q))] S
      = .nx [some (.fz g), some (.fz (.int f)), some (.fz (.int (q + p)))] S
  | 0, q, n + 1, _ => by
    have : ¬ f % 2 = 0 := by omega
    simp [whileL, hfe, o_mod (show (0:Int) < 2 by decide), hf]
  | p + 1, q, n + 1, h => by
    have e : f * 2 ^ (p + 1) % 2 = 0 := by rw [Int.pow_succ, ← Int.mul_assoc]; omega
    have e2 : f * 2 ^ (p + 1) / 2 = f * 2 ^ p := by rw [Int.pow_succ, ← Int.mul_assoc]; omega
    have := shape_loop (S := S) (g := g) hfe fd hfd hf p (q + 1) n (by omega)
    have e3 : q + 1 + (p : Int) = q + ((p + 1 : Nat) : Int) := by omega
    rw [e3] at this
    simp [whileL, hfe, o_mod (show (0:Int) < 2 by decide), e, hfd, e2, this]
theorem shape_in {S : Store} {f : Int} {p : Nat} (hf : f % 2 = 1) (hp : p < 1000) : m_shape_in [.int (f * 2 ^ p + 1)] S = .ok (.tup [.int f, .int p]) S := by
  have := shape_loop (S := S) (g := .int (f * 2 ^ p + 1)) (fe := fRd 1) (fun _ _ => by simp) (fOp gDiv (fRd 1) (fC (.int 2))) (fun i q => by simp [o_div (show (0:Int) < 2 by decide) (by decide)]) hf p 0 fuel (by unfold fuel; omega)
  rw [Int.zero_add] at this
  have e : f * 2 ^ p + 1 - 1 = f * 2 ^ p := by omega
  simp [wc1_shape_in, wb1_shape_in, m_shape_in, f_shape_in, N_shape_in, startE, e, this]
theorem p_small {f g : Int} {p : Nat} (hf : f % 2 = 1) (e : g = f * 2 ^ p + 1) (g1 : 3 ≤ g) (g2 : g ≤ 10 ^ 40) : 1 ≤ f ∧ p ≤ 132 := by
  have pp := pow2_pos p
  have f1 : 1 ≤ f := by
    rcases Int.lt_or_le f 1 with h | h
    · exfalso
      have : f * 2 ^ p ≤ 0 * 2 ^ p := Int.mul_le_mul_of_nonneg_right (by omega) (by omega)
      omega
    · exact h
  refine ⟨f1, ?_⟩
  rcases Nat.lt_or_ge 132 p with h | h
  · exfalso
    have h2 : (2 : Int) ^ 133 ≤ 2 ^ p := pow2_mono (by omega)
    have : 1 * 2 ^ p ≤ f * 2 ^ p := Int.mul_le_mul_of_nonneg_right f1 (by omega)
    omega
  · exact h
theorem shape_of {S : Store} {g f : Int} {p : Nat} (hf : f % 2 = 1) (e : g = f * 2 ^ p + 1) (g1 : 3 ≤ g) (g2 : g ≤ 10 ^ 40) (go : g % 2 = 1) : m_shape_of [.int g] S = .ok (if isSh f p then .tup [.int f, .int p] else .non) S := by
  obtain ⟨h1, h2⟩ := p_small hf e g1 g2
  have g2' : g ≤ 10000000000000000000000000000000000000000 := g2
  have hi := shape_in (S := S) hf (show p < 1000 by omega)
  rw [← e] at hi
  cases h : isSh f p <;> simp [m_shape_of, f_shape_of, N_shape_of, startE, is_odd_great, g1, g2', go, hi, fits, h, gT, gConss, gNils, gN]
end LW

end

section
set_option autoImplicit false
set_option autoImplicit false
namespace LW
open PySem PySem.Spec PyProof.Rows L2 DL NT HZ
theorem number_above {f p : Int} {S : Store} (h : isSh f p = true) : m_number_above [.int f, .int p] S = .ok (.int (f * 2 ^ p.toNat + 1)) S := by
  obtain ⟨a1, a2, a3, a4, a5, a6, a7⟩ := isSh_great h
  have ha := above_in (S := S) (f := f) (p := p) (by omega) (by omega)
  simp [m_number_above, f_number_above, N_number_above, startE, need_shape h, ha]
theorem isSh_119 {f : Int} {p : Nat} (f1 : 1 ≤ f) (f2 : f % 2 = 1) (f3 : f < 2000) (p1 : 100 ≤ p) (p2 : p < 120) : isSh f p = true := by
  have e : ((p : Nat) : Int).toNat = p := by omega
  have h1 : (2 : Int) ^ 100 ≤ 2 ^ p := pow2_mono p1
  have h2 : (2 : Int) ^ p ≤ 2 ^ 119 := pow2_mono (by omega)
  have h3 : f * 2 ^ p ≤ 2000 * 2 ^ 119 := by
    have a := Int.mul_le_mul_of_nonneg_right (show f ≤ 2000 by omega) (show (0:Int) ≤ 2 ^ p by have := pow2_pos p; omega)
    have b := Int.mul_le_mul_of_nonneg_left h2 (show (0:Int) ≤ 2000 by omega)
    omega
  have h4 : (2000 : Int) < 2 ^ 100 := by decide
  have h5 : (2000 : Int) * 2 ^ 119 + 1 ≤ 10 ^ 40 := by decide
  unfold isSh
  rw [e, decide_eq_true_eq]
  exact ⟨f1, f2, by omega, by omega, by omega, by omega⟩
section
variable {S : Store}
def bigL : D := .lst [.bl true, .bl false, .int 0, .bl false, .int 130]
def endL : D := .lst [.bl true, .int 127, .int 263, .non]
theorem great_right (hc : Cup S) : ∃ S', m__law_great_right [.hd 2] S = .ok (.bl true) S' := by
  obtain ⟨x, S1, lr1, c1, x0, x1⟩ := law_roll hc (k := 20) (by omega) (by omega)
  obtain ⟨y, S2, lr2, c2, y0, y1⟩ := law_roll c1 (k := 1000) (by omega) (by omega)
  obtain ⟨p, hp⟩ : ∃ p : Nat, 100 + x = (p : Int) := ⟨(100 + x).toNat, by omega⟩
  obtain ⟨f, hfy⟩ : ∃ f : Int, f = 2 * y + 1 := ⟨_, rfl⟩
  have hs : isSh f p = true := isSh_119 (by omega) (by omega) (by omega) (by omega) (by omega)
  obtain ⟨g, hg⟩ : ∃ g : Int, g = f * 2 ^ p + 1 := ⟨_, rfl⟩
  have ep : g = f * 2 ^ (p : Int).toNat + 1 := shape_ep hg
  obtain ⟨a1, a2, a3, a4, a5, a6, a7⟩ := isSh_great hs
  rw [← ep] at a5 a6 a7
  have la := law_above (S := S2) (f := f) (p := p) (by omega) (by omega)
  rw [← ep] at la
  have sp := shape_prime' hs hg S2
  obtain ⟨d, pp, hd⟩ := proth_paper hs hg
  obtain ⟨b, d2, pa, fp, hd2⟩ := false_paper hs ep
  have eb : b = pmb g := by
    have h1 := pa S2
    rw [prime_above_pmb hs hg S2] at h1
    exact (D.bl.inj (Res.ok.inj h1).1).symm
  have na := number_above (S := S2) hs
  rw [← ep] at na
  have so := shape_of (S := S2) (g := g) (f := f) (p := p) a2 hg a5 a6 a7
  rw [if_pos hs] at so
  have m2 : mulOk 2 y = true := mulOk_l (by decide)
  have p10 : gPow (.int 10) (.int 3) = some (.int 1000) := by rfl
  have lk : ∀ b : Bool, m__law_like [.lst [.int g, .bl b, .bl b, .tup [.int f, .int p]], .lst [.int g, .bl b, .bl b, .tup [.int f, .int p]]] S2 = .ok (.bl true) S2 := fun b => like (by simp [plainD])
  have h : f__law_great_right fuel (startE N__law_great_right [.hd 2]) S = .rt (.bl true) S2 := by
    unfold f__law_great_right
    refine (seq_nx (E' := [some (.fz (.hd 2)), some (.fz (.int p)), none, none, none, none, none]) (S' := S1) (by simp [N__law_great_right, startE, lr1, hp])).trans ?_
    refine (seq_nx (E' := [some (.fz (.hd 2)), some (.fz (.int p)), some (.fz (.int f)), none, none, none, none]) (S' := S2) (by simp [p10, lr2, o_mul m2, hfy])).trans ?_
    refine (seq_nx (E' := [some (.fz (.hd 2)), some (.fz (.int p)), some (.fz (.int f)), some (.fz (.int g)), none, none, none]) (S' := S2) (by simp [la])).trans ?_
    refine (seq_nx (E' := [some (.fz (.hd 2)), some (.fz (.int p)), some (.fz (.int f)), some (.fz (.int g)), some (.fz (.bl (pmb g))), some (.fz d), some (.fz d2)]) (S' := S2) (by simp [sp, pp S2, fp S2])).trans ?_
    rw [eb] at hd2
    refine (seq_nx (E' := [some (.fz (.hd 2)), some (.fz (.int p)), some (.fz (.int f)), some (.fz (.int g)), some (.fz (.bl (pmb g))), some (.fz d), some (.fz d2)]) (S' := S2) ?_).trans ?_
    · rcases hd with ⟨e1, b1, rfl, _, _, _⟩ | ⟨e1, rfl⟩
      · rcases hd2 with ⟨_, rfl⟩ | ⟨e2, _⟩
        · simp [na, so, e1, gIs, gIsN, lk]
        · rw [e1] at e2; cases e2
      · rcases hd2 with ⟨e2, _⟩ | ⟨_, x2, rfl, _⟩
        · rw [e1] at e2; cases e2
        · simp [na, so, e1, gIs, gIsN, lk]
    refine (seq_nx (E' := [some (.fz (.hd 2)), some (.fz (.int p)), some (.fz (.int f)), some (.fz (.int g)), some (.fz (.bl (pmb g))), some (.fz d), some (.fz d2)]) (S' := S2) ?_).trans ?_
    · rcases hd with ⟨e1, b1, rfl, _, _, hb⟩ | ⟨e1, rfl⟩
      · rcases hd2 with ⟨_, rfl⟩ | ⟨e2, _⟩
        · have lh := law_half (S := S2) (b := b1) a5 a6 a7
          have lh : m__law_half [.int b1, .int g] S2 = .ok (.int (hf b1 g)) S2 := lh
          rw [hb] at lh
          simp [gIs, gIsN, lh]
        · rw [e1] at e2; cases e2
      · rcases hd2 with ⟨e2, _⟩ | ⟨_, x2, rfl, _, _, hx⟩
        · rw [e1] at e2; cases e2
        · have lf := law_is_false (S := S2) (b := x2) a5 a6 a7
          rw [hx] at lf
          simp [gIs, gIsN, lf]
    refine (seq_nx (E' := [some (.fz (.hd 2)), some (.fz (.int p)), some (.fz (.int f)), some (.fz (.int g)), some (.fz (.lst [.bl true, .bl false, .int 0])), some (.fz d), some (.fz d2)]) (S' := S2) (by kernel_rfl)).trans ?_
    refine (seq_nx (E' := [some (.fz (.hd 2)), some (.fz (.int p)), some (.fz (.int f)), some (.fz (.int g)), some (.fz bigL), some (.fz d), some (.fz d2)]) (S' := S2) (by kernel_rfl)).trans ?_
    refine (seq_nx (E' := [some (.fz (.hd 2)), some (.fz (.int p)), some (.fz (.int f)), some (.fz (.int g)), some (.fz bigL), some (.fz d), some (.fz d2)]) (S' := S2) (by kernel_rfl)).trans ?_
    refine (seq_nx (E' := [some (.fz (.hd 2)), some (.fz (.int p)), some (.fz (.int f)), some (.fz (.int g)), some (.fz (.lst [.bl true, .int 127])), some (.fz d), some (.fz d2)]) (S' := S2) (by kernel_rfl)).trans ?_
    refine (seq_nx (E' := [some (.fz (.hd 2)), some (.fz (.int p)), some (.fz (.int f)), some (.fz (.int g)), some (.fz endL), some (.fz d), some (.fz d2)]) (S' := S2) (by kernel_rfl)).trans ?_
    kernel_rfl
  refine ⟨S2, ?_⟩
  unfold m__law_great_right
  rw [h]
  rfl
theorem law_true (ns : List Int) (hn : ns.length ≤ 63) : ∃ S, m_law [.scr ns] (tblS tfL) = .ok (.bl true) S := by
  obtain ⟨S0, lc, c0⟩ := law_cup hn
  obtain ⟨S1, d, c1, hd, ls⟩ := law_some (S := S0) (l := [.non, .str "odd", .lst [], .bl true, .tup [.non], .int (-1)]) c0 (by decide) (by decide)
  obtain ⟨e1, e2⟩ := errors_ok c1 hd
  obtain ⟨S2, gr⟩ := great_right c1
  refine ⟨S2, ?_⟩
  simp [m_law, f_law, N_law, startE, lc, ls, e1, e2, gr]
end
end LW

end

section
set_option autoImplicit true
namespace LW
open PySem PySem.Spec PyProof.Rows L2 DL HZ
def topS (i : Nat) : Stmt := PySem.Challenge.pw_primessure_k79_errors_and_great_shapes.main.body.getD i (.Pass ⟨0, 0, 0, 0⟩)
abbrev s_is_integer : Stmt := topS 9
def d_is_integer : He.DefD := ⟨("is_integer", none), "is_integer", "is_integer", defArgs s_is_integer, defBody s_is_integer, defScope s_is_integer, [], []⟩
abbrev s_is_whole : Stmt := topS 10
def d_is_whole : He.DefD := ⟨("is_whole", none), "is_whole", "is_whole", defArgs s_is_whole, defBody s_is_whole, defScope s_is_whole, [], []⟩
abbrev s_need_whole : Stmt := topS 11
def d_need_whole : He.DefD := ⟨("need_whole", none), "need_whole", "need_whole", defArgs s_need_whole, defBody s_need_whole, defScope s_need_whole, [], []⟩
abbrev s_least_factor : Stmt := topS 12
def d_least_factor : He.DefD := ⟨("least_factor", none), "least_factor", "least_factor", defArgs s_least_factor, defBody s_least_factor, defScope s_least_factor, [], []⟩
abbrev s_is_prime_in : Stmt := topS 13
def d_is_prime_in : He.DefD := ⟨("is_prime_in", none), "is_prime_in", "is_prime_in", defArgs s_is_prime_in, defBody s_is_prime_in, defScope s_is_prime_in, [], []⟩
abbrev s_power_in : Stmt := topS 14
def d_power_in : He.DefD := ⟨("power_in", none), "power_in", "power_in", defArgs s_power_in, defBody s_power_in, defScope s_power_in, [], []⟩
abbrev s_sign_in : Stmt := topS 16
def d_sign_in : He.DefD := ⟨("sign_in", none), "sign_in", "sign_in", defArgs s_sign_in, defBody s_sign_in, defScope s_sign_in, [], []⟩
abbrev s_above_in : Stmt := topS 21
def d_above_in : He.DefD := ⟨("above_in", none), "above_in", "above_in", defArgs s_above_in, defBody s_above_in, defScope s_above_in, [], []⟩
abbrev s_fits_two_shape : Stmt := topS 22
def d_fits_two_shape : He.DefD := ⟨("fits_two_shape", none), "fits_two_shape", "fits_two_shape", defArgs s_fits_two_shape, defBody s_fits_two_shape, defScope s_fits_two_shape, [], []⟩
abbrev s_need_two_shape : Stmt := topS 23
def d_need_two_shape : He.DefD := ⟨("need_two_shape", none), "need_two_shape", "need_two_shape", defArgs s_need_two_shape, defBody s_need_two_shape, defScope s_need_two_shape, [], []⟩
abbrev s_shape_in : Stmt := topS 24
def d_shape_in : He.DefD := ⟨("shape_in", none), "shape_in", "shape_in", defArgs s_shape_in, defBody s_shape_in, defScope s_shape_in, [], []⟩
abbrev s_half_in : Stmt := topS 25
def d_half_in : He.DefD := ⟨("half_in", none), "half_in", "half_in", defArgs s_half_in, defBody s_half_in, defScope s_half_in, [], []⟩
abbrev s_is_square_number : Stmt := topS 26
def d_is_square_number : He.DefD := ⟨("is_square_number", none), "is_square_number", "is_square_number", defArgs s_is_square_number, defBody s_is_square_number, defScope s_is_square_number, [], []⟩
abbrev s_paper_base : Stmt := topS 27
def d_paper_base : He.DefD := ⟨("paper_base", none), "paper_base", "paper_base", defArgs s_paper_base, defBody s_paper_base, defScope s_paper_base, [], []⟩
abbrev s_is_prime_above : Stmt := topS 28
def d_is_prime_above : He.DefD := ⟨("is_prime_above", none), "is_prime_above", "is_prime_above", defArgs s_is_prime_above, defBody s_is_prime_above, defScope s_is_prime_above, [], []⟩
abbrev s_is_false_in : Stmt := topS 29
def d_is_false_in : He.DefD := ⟨("is_false_in", none), "is_false_in", "is_false_in", defArgs s_is_false_in, defBody s_is_false_in, defScope s_is_false_in, [], []⟩
abbrev s_is_odd_great : Stmt := topS 30
def d_is_odd_great : He.DefD := ⟨("is_odd_great", none), "is_odd_great", "is_odd_great", defArgs s_is_odd_great, defBody s_is_odd_great, defScope s_is_odd_great, [], []⟩
abbrev s_is_base_to : Stmt := topS 31
def d_is_base_to : He.DefD := ⟨("is_base_to", none), "is_base_to", "is_base_to", defArgs s_is_base_to, defBody s_is_base_to, defScope s_is_base_to, [], []⟩
abbrev s_is_two_shape : Stmt := topS 32
def d_is_two_shape : He.DefD := ⟨("is_two_shape", none), "is_two_shape", "is_two_shape", defArgs s_is_two_shape, defBody s_is_two_shape, defScope s_is_two_shape, [], []⟩
abbrev s_number_above : Stmt := topS 33
def d_number_above : He.DefD := ⟨("number_above", none), "number_above", "number_above", defArgs s_number_above, defBody s_number_above, defScope s_number_above, [], []⟩
abbrev s_shape_of : Stmt := topS 34
def d_shape_of : He.DefD := ⟨("shape_of", none), "shape_of", "shape_of", defArgs s_shape_of, defBody s_shape_of, defScope s_shape_of, [], []⟩
abbrev s_half_rest : Stmt := topS 35
def d_half_rest : He.DefD := ⟨("half_rest", none), "half_rest", "half_rest", defArgs s_half_rest, defBody s_half_rest, defScope s_half_rest, [], []⟩
abbrev s_is_shape_prime : Stmt := topS 36
def d_is_shape_prime : He.DefD := ⟨("is_shape_prime", none), "is_shape_prime", "is_shape_prime", defArgs s_is_shape_prime, defBody s_is_shape_prime, defScope s_is_shape_prime, [], []⟩
abbrev s_proth_paper : Stmt := topS 37
def d_proth_paper : He.DefD := ⟨("proth_paper", none), "proth_paper", "proth_paper", defArgs s_proth_paper, defBody s_proth_paper, defScope s_proth_paper, [], []⟩
abbrev s_is_proth_paper : Stmt := topS 38
def d_is_proth_paper : He.DefD := ⟨("is_proth_paper", none), "is_proth_paper", "is_proth_paper", defArgs s_is_proth_paper, defBody s_is_proth_paper, defScope s_is_proth_paper, [], []⟩
abbrev s_false_paper : Stmt := topS 39
def d_false_paper : He.DefD := ⟨("false_paper", none), "false_paper", "false_paper", defArgs s_false_paper, defBody s_false_paper, defScope s_false_paper, [], []⟩
abbrev s_is_false_paper : Stmt := topS 40
def d_is_false_paper : He.DefD := ⟨("is_false_paper", none), "is_false_paper", "is_false_paper", defArgs s_is_false_paper, defBody s_is_false_paper, defScope s_is_false_paper, [], []⟩
abbrev s_prime_fronts : Stmt := topS 41
def d_prime_fronts : He.DefD := ⟨("prime_fronts", none), "prime_fronts", "prime_fronts", defArgs s_prime_fronts, defBody s_prime_fronts, defScope s_prime_fronts, [], []⟩
abbrev s_fermat_in : Stmt := topS 45
def d_fermat_in : He.DefD := ⟨("fermat_in", none), "fermat_in", "fermat_in", defArgs s_fermat_in, defBody s_fermat_in, defScope s_fermat_in, [], []⟩
abbrev s_need_order : Stmt := topS 46
def d_need_order : He.DefD := ⟨("need_order", none), "need_order", "need_order", defArgs s_need_order, defBody s_need_order, defScope s_need_order, [], []⟩
abbrev s_least_divisor_by : Stmt := topS 47
def d_least_divisor_by : He.DefD := ⟨("least_divisor_by", none), "least_divisor_by", "least_divisor_by", defArgs s_least_divisor_by, defBody s_least_divisor_by, defScope s_least_divisor_by, [], []⟩
abbrev s_fermat_number : Stmt := topS 48
def d_fermat_number : He.DefD := ⟨("fermat_number", none), "fermat_number", "fermat_number", defArgs s_fermat_number, defBody s_fermat_number, defScope s_fermat_number, [], []⟩
abbrev s_pepin_rest : Stmt := topS 49
def d_pepin_rest : He.DefD := ⟨("pepin_rest", none), "pepin_rest", "pepin_rest", defArgs s_pepin_rest, defBody s_pepin_rest, defScope s_pepin_rest, [], []⟩
abbrev s_is_fermat_prime : Stmt := topS 50
def d_is_fermat_prime : He.DefD := ⟨("is_fermat_prime", none), "is_fermat_prime", "is_fermat_prime", defArgs s_is_fermat_prime, defBody s_is_fermat_prime, defScope s_is_fermat_prime, [], []⟩
abbrev s_fermat_divisor : Stmt := topS 51
def d_fermat_divisor : He.DefD := ⟨("fermat_divisor", none), "fermat_divisor", "fermat_divisor", defArgs s_fermat_divisor, defBody s_fermat_divisor, defScope s_fermat_divisor, [], []⟩
abbrev s_mersenne_in : Stmt := topS 54
def d_mersenne_in : He.DefD := ⟨("mersenne_in", none), "mersenne_in", "mersenne_in", defArgs s_mersenne_in, defBody s_mersenne_in, defScope s_mersenne_in, [], []⟩
abbrev s_chain_in : Stmt := topS 55
def d_chain_in : He.DefD := ⟨("chain_in", none), "chain_in", "chain_in", defArgs s_chain_in, defBody s_chain_in, defScope s_chain_in, [], []⟩
abbrev s_need_chained : Stmt := topS 56
def d_need_chained : He.DefD := ⟨("need_chained", none), "need_chained", "need_chained", defArgs s_need_chained, defBody s_need_chained, defScope s_need_chained, [], []⟩
abbrev s_mersenne_number : Stmt := topS 57
def d_mersenne_number : He.DefD := ⟨("mersenne_number", none), "mersenne_number", "mersenne_number", defArgs s_mersenne_number, defBody s_mersenne_number, defScope s_mersenne_number, [], []⟩
abbrev s_lucas_chain : Stmt := topS 58
def d_lucas_chain : He.DefD := ⟨("lucas_chain", none), "lucas_chain", "lucas_chain", defArgs s_lucas_chain, defBody s_lucas_chain, defScope s_lucas_chain, [], []⟩
abbrev s_is_mersenne_prime : Stmt := topS 59
def d_is_mersenne_prime : He.DefD := ⟨("is_mersenne_prime", none), "is_mersenne_prime", "is_mersenne_prime", defArgs s_is_mersenne_prime, defBody s_is_mersenne_prime, defScope s_is_mersenne_prime, [], []⟩
abbrev s_mersenne_primes_to : Stmt := topS 60
def d_mersenne_primes_to : He.DefD := ⟨("mersenne_primes_to", none), "mersenne_primes_to", "mersenne_primes_to", defArgs s_mersenne_primes_to, defBody s_mersenne_primes_to, defScope s_mersenne_primes_to, [], []⟩
abbrev s_mersenne_divisor : Stmt := topS 61
def d_mersenne_divisor : He.DefD := ⟨("mersenne_divisor", none), "mersenne_divisor", "mersenne_divisor", defArgs s_mersenne_divisor, defBody s_mersenne_divisor, defScope s_mersenne_divisor, [], []⟩
abbrev s__law_cup : Stmt := topS 63
def d__law_cup : He.DefD := ⟨("_law_cup", none), "_law_cup", "_law_cup", defArgs s__law_cup, defBody s__law_cup, defScope s__law_cup, [], []⟩
abbrev s__law_roll : Stmt := topS 64
def d__law_roll : He.DefD := ⟨("_law_roll", none), "_law_roll", "_law_roll", defArgs s__law_roll, defBody s__law_roll, defScope s__law_roll, [], []⟩
abbrev s__law_some : Stmt := topS 65
def d__law_some : He.DefD := ⟨("_law_some", none), "_law_some", "_law_some", defArgs s__law_some, defBody s__law_some, defScope s__law_some, [], []⟩
abbrev s__law_sort : Stmt := topS 66
def d__law_sort : He.DefD := ⟨("_law_sort", none), "_law_sort", "_law_sort", defArgs s__law_sort, defBody s__law_sort, defScope s__law_sort, [], []⟩
abbrev s__law_like : Stmt := topS 67
def d__law_like : He.DefD := ⟨("_law_like", none), "_law_like", "_law_like", defArgs s__law_like, defBody s__law_like, defScope s__law_like, [], []⟩
abbrev s__law_power : Stmt := topS 68
def d__law_power : He.DefD := ⟨("_law_power", none), "_law_power", "_law_power", defArgs s__law_power, defBody s__law_power, defScope s__law_power, [], []⟩
abbrev s__law_above : Stmt := topS 69
def d__law_above : He.DefD := ⟨("_law_above", none), "_law_above", "_law_above", defArgs s__law_above, defBody s__law_above, defScope s__law_above, [], []⟩
abbrev s__law_sign : Stmt := topS 70
def d__law_sign : He.DefD := ⟨("_law_sign", none), "_law_sign", "_law_sign", defArgs s__law_sign, defBody s__law_sign, defScope s__law_sign, [], []⟩
abbrev s__law_half : Stmt := topS 71
def d__law_half : He.DefD := ⟨("_law_half", none), "_law_half", "_law_half", defArgs s__law_half, defBody s__law_half, defScope s__law_half, [], []⟩
abbrev s__law_is_false : Stmt := topS 72
def d__law_is_false : He.DefD := ⟨("_law_is_false", none), "_law_is_false", "_law_is_false", defArgs s__law_is_false, defBody s__law_is_false, defScope s__law_is_false, [], []⟩
abbrev s__law_error : Stmt := topS 73
def d__law_error : He.DefD := ⟨("_law_error", none), "_law_error", "_law_error", defArgs s__law_error, defBody s__law_error, defScope s__law_error, [], []⟩
abbrev s__law_shapes_right : Stmt := topS 74
def d__law_shapes_right : He.DefD := ⟨("_law_shapes_right", none), "_law_shapes_right", "_law_shapes_right", defArgs s__law_shapes_right, defBody s__law_shapes_right, defScope s__law_shapes_right, [], []⟩
abbrev s__law_numbers_right : Stmt := topS 75
def d__law_numbers_right : He.DefD := ⟨("_law_numbers_right", none), "_law_numbers_right", "_law_numbers_right", defArgs s__law_numbers_right, defBody s__law_numbers_right, defScope s__law_numbers_right, [], []⟩
abbrev s__law_great_right : Stmt := topS 76
def d__law_great_right : He.DefD := ⟨("_law_great_right", none), "_law_great_right", "_law_great_right", defArgs s__law_great_right, defBody s__law_great_right, defScope s__law_great_right, [], []⟩
abbrev s_law : Stmt := topS 77
def d_law : He.DefD := ⟨("law", none), "law", "law", defArgs s_law, defBody s_law, defScope s_law, [], []⟩
def fn : List He.DefD := ([d_is_integer, d_is_whole, d_need_whole, d_least_factor, d_is_prime_in, d_power_in, d_sign_in, d_above_in, d_fits_two_shape, d_need_two_shape, d_shape_in, d_half_in, d_is_square_number, d_paper_base, d_is_prime_above, d_is_false_in, d_is_odd_great, d_is_base_to, d_is_two_shape, d_number_above, d_shape_of, d_half_rest, d_is_shape_prime, d_proth_paper, d_is_proth_paper, d_false_paper, d_is_false_paper, d_prime_fronts, d_fermat_in, d_need_order, d_least_divisor_by, d_fermat_number, d_pepin_rest, d_is_fermat_prime, d_fermat_divisor] : List He.DefD) ++ ([d_mersenne_in, d_chain_in, d_need_chained, d_mersenne_number, d_lucas_chain, d_is_mersenne_prime, d_mersenne_primes_to, d_mersenne_divisor, d__law_cup, d__law_roll, d__law_some, d__law_sort, d__law_like, d__law_power, d__law_above, d__law_sign, d__law_half, d__law_is_false, d__law_error, d__law_shapes_right, d__law_numbers_right, d__law_great_right, d_law] : List He.DefD)
def fa : List He.Fa := ([.glo "is_integer", .glo "is_whole", .glo "need_whole", .glo "least_factor", .glo "is_prime_in", .glo "power_in", .glo "sign_in", .glo "above_in", .glo "fits_two_shape", .glo "need_two_shape", .glo "shape_in", .glo "half_in", .glo "is_square_number", .glo "paper_base", .glo "is_prime_above", .glo "is_false_in", .glo "is_odd_great", .glo "is_base_to", .glo "is_two_shape", .glo "number_above", .glo "shape_of", .glo "half_rest", .glo "is_shape_prime", .glo "proth_paper", .glo "is_proth_paper", .glo "false_paper", .glo "is_false_paper", .glo "prime_fronts", .glo "fermat_in", .glo "need_order", .glo "least_divisor_by", .glo "fermat_number", .glo "pepin_rest", .glo "is_fermat_prime", .glo "fermat_divisor"] : List He.Fa) ++ ([.glo "mersenne_in", .glo "chain_in", .glo "need_chained", .glo "mersenne_number", .glo "lucas_chain", .glo "is_mersenne_prime", .glo "mersenne_primes_to", .glo "mersenne_divisor", .glo "_law_cup", .glo "_law_roll", .glo "_law_some", .glo "_law_sort", .glo "_law_like", .glo "_law_power", .glo "_law_above", .glo "_law_sign", .glo "_law_half", .glo "_law_is_false", .glo "_law_error", .glo "_law_shapes_right", .glo "_law_numbers_right", .glo "_law_great_right", .glo "law", .glo "PrimeError", .glo "InvalidNumber", .glo "InvalidPrime", .glo "InvalidBase", .glo "InvalidShape", .exc "PrimeError", .exc "InvalidNumber", .exc "InvalidPrime", .exc "InvalidBase", .exc "InvalidShape", .int "GREAT" 10000000000000000000000000000000000000000, .int "LONG" 1000000000000000000000000000000000000000000000000000000000000] : List He.Fa) ++ ([.int "MOST_POWER" 132, .int "LISTED_POWER" 120, .int "LISTED_FRONT" 400, .int "ORDERS" 7, .int "MOST_SOUGHT" 1000000, .int "LARGEST" 131, .free "ValueError", .free "abs", .free "bool", .free "int", .free "isinstance", .free "len", .free "list", .free "min", .free "range", .free "str", .free "tuple", .free "zip", .exm "InvalidNumber" "PrimeError" true, .exm "InvalidShape" "PrimeError" true, .exm "InvalidBase" "PrimeError" true, .exm "InvalidPrime" "PrimeError" true] : List He.Fa)
def exL (K : PySem.W.Frag) : List Bool := ([exB K (He.ga K "InvalidNumber"), decide (PySem.W.kitOne K (.ref (He.ga K "InvalidNumber")) (.ref (He.ga K "InvalidPrime")) = some false), decide (PySem.W.kitOne K (.ref (He.ga K "InvalidNumber")) (.ref (He.ga K "InvalidNumber")) = some true), decide (PySem.W.kitOne K (.ref (He.ga K "InvalidNumber")) (.ref (He.ga K "InvalidBase")) = some false), decide (PySem.W.kitOne K (.ref (He.ga K "InvalidNumber")) (.ref (He.ga K "InvalidShape")) = some false), exB K (He.ga K "InvalidShape"), decide (PySem.W.kitOne K (.ref (He.ga K "InvalidShape")) (.ref (He.ga K "InvalidPrime")) = some false), decide (PySem.W.kitOne K (.ref (He.ga K "InvalidShape")) (.ref (He.ga K "InvalidNumber")) = some false), decide (PySem.W.kitOne K (.ref (He.ga K "InvalidShape")) (.ref (He.ga K "InvalidBase")) = some false), decide (PySem.W.kitOne K (.ref (He.ga K "InvalidShape")) (.ref (He.ga K "InvalidShape")) = some true), exB K (He.ga K "InvalidBase"), decide (PySem.W.kitOne K (.ref (He.ga K "InvalidBase")) (.ref (He.ga K "InvalidPrime")) = some false), decide (PySem.W.kitOne K (.ref (He.ga K "InvalidBase")) (.ref (He.ga K "InvalidNumber")) = some false), decide (PySem.W.kitOne K (.ref (He.ga K "InvalidBase")) (.ref (He.ga K "InvalidBase")) = some true), decide (PySem.W.kitOne K (.ref (He.ga K "InvalidBase")) (.ref (He.ga K "InvalidShape")) = some false), exB K (He.ga K "InvalidPrime"), decide (PySem.W.kitOne K (.ref (He.ga K "InvalidPrime")) (.ref (He.ga K "InvalidPrime")) = some true), decide (PySem.W.kitOne K (.ref (He.ga K "InvalidPrime")) (.ref (He.ga K "InvalidNumber")) = some false), decide (PySem.W.kitOne K (.ref (He.ga K "InvalidPrime")) (.ref (He.ga K "InvalidBase")) = some false), decide (PySem.W.kitOne K (.ref (He.ga K "InvalidPrime")) (.ref (He.ga K "InvalidShape")) = some false)] : List Bool)
theorem sc_is_integer : FnScope N_is_integer ["value"] (defScope s_is_integer) := ⟨rfl, rfl, rfl, by decide +kernel, rfl, by decide +kernel, by decide +kernel⟩
theorem der_is_integer {P : Program} {w : World} {K : PySem.W.Frag} {mg : Str → Option Value} {base : Heap} (T : HdL exL tfL fa fn K mg base) {X : Cx} {B : Gr} {W : WX} (h : Bd X W P w K mg base 0 N_is_integer (defScope s_is_integer)) : QSs X B W (defBody s_is_integer) f_is_integer := by
  have v0 := h.vr (i := 0) (x := "value") (by rfl) (by decide +kernel)
  have g_bool := h.gl (x := "bool") (by decide +kernel)
  have g_int := h.gl (x := "int") (by decide +kernel)
  have g_isinstance := h.gl (x := "isinstance") (by decide +kernel)
  exact (ss_one (s_ret (q_and (q_cb cq_isi (h.wd.blt (T.free 80 (by rfl)) g_isinstance) boot_isinstance (by decide) (by rfl) (ar_cons (q_rd v0) (ar_cons (QE.qr (q_ty (h.wd.blt (T.free 79 (by rfl)) g_int) boot_int (by decide) (by rfl))) ar_nil (by rfl)) (by rfl)) (by rfl) (by rfl)) (q_one (q_not (q_cb cq_isi (h.wd.blt (T.free 80 (by rfl)) g_isinstance) boot_isinstance (by decide) (by rfl) (ar_cons (q_rd v0) (ar_cons (QE.qr (q_ty (h.wd.blt (T.free 78 (by rfl)) g_bool) boot_bool (by decide) (by rfl))) ar_nil (by rfl)) (by rfl)) (by rfl) (by rfl)))))))

theorem sc_is_whole : FnScope N_is_whole ["value", "low", "high"] (defScope s_is_whole) := ⟨rfl, rfl, rfl, by decide +kernel, rfl, by decide +kernel, by decide +kernel⟩
theorem der_is_whole {P : Program} {w : World} {K : PySem.W.Frag} {mg : Str → Option Value} {base : Heap} (T : HdL exL tfL fa fn K mg base) (c_is_integer : CalleeK P w K mg base "is_integer" 1 1 m_is_integer) {X : Cx} {B : Gr} {W : WX} (h : Bd X W P w K mg base 1 N_is_whole (defScope s_is_whole)) : QSs X B W (defBody s_is_whole) f_is_whole := by
  have v0 := h.vr (i := 0) (x := "value") (by rfl) (by decide +kernel)
  have v1 := h.vr (i := 1) (x := "low") (by rfl) (by decide +kernel)
  have v2 := h.vr (i := 2) (x := "high") (by rfl) (by decide +kernel)
  have g_is_integer := h.gl (x := "is_integer") (by decide +kernel)
  exact (ss_one (s_ret (q_and (q_call (Wd.callee h.wd c_is_integer g_is_integer (by rfl)) (h.wd.room.mono (by omega)) h.cc.tk (a_cons (q_var v0) a_nil (by rfl)) (len_cons len_nil).len (by rfl) (by rfl)) (q_one (q_chain opq_le opq_le (q_rd v1) (q_rd v0) (q_rd v2) (by with_unfolding_all rfl))))))

theorem sc_need_whole : FnScope N_need_whole ["value", "low", "high"] (defScope s_need_whole) := ⟨rfl, rfl, rfl, by decide +kernel, rfl, by decide +kernel, by decide +kernel⟩
theorem der_need_whole {P : Program} {w : World} {K : PySem.W.Frag} {mg : Str → Option Value} {base : Heap} (T : HdL exL tfL fa fn K mg base) (c_is_whole : CalleeK P w K mg base "is_whole" 2 3 m_is_whole) {X : Cx} {B : Gr} {W : WX} (h : Bd X W P w K mg base 2 N_need_whole (defScope s_need_whole)) : QSs X B W (defBody s_need_whole) f_need_whole := by
  have v0 := h.vr (i := 0) (x := "value") (by rfl) (by decide +kernel)
  have v1 := h.vr (i := 1) (x := "low") (by rfl) (by decide +kernel)
  have v2 := h.vr (i := 2) (x := "high") (by rfl) (by decide +kernel)
  have g_InvalidNumber := h.gl (x := "InvalidNumber") (by decide +kernel)
  have g_is_whole := h.gl (x := "is_whole") (by decide +kernel)
  exact (ss_one (s_if (t_not (t_val (q_call (Wd.callee h.wd c_is_whole g_is_whole (by rfl)) (h.wd.room.mono (by omega)) h.cc.tk (a_cons (q_var v0) (a_cons (q_var v1) (a_cons (q_var v2) a_nil (by rfl)) (by rfl)) (by rfl)) (len_cons (len_cons (len_cons len_nil))).len (by rfl) (by rfl)) (fun _ => rfl)))
  (ss_one (s_raise (h.wd.exc g_InvalidNumber (by rfl) (T.glo 59 (by rfl)) (T.exc 64 (by rfl))) h.cc))
  ss_nil))

theorem sc_least_factor : FnScope N_least_factor ["number"] (defScope s_least_factor) := ⟨rfl, rfl, rfl, by decide +kernel, rfl, by decide +kernel, by decide +kernel⟩
theorem der_least_factor {P : Program} {w : World} {K : PySem.W.Frag} {mg : Str → Option Value} {base : Heap} (T : HdL exL tfL fa fn K mg base) {X : Cx} {B : Gr} {W : WX} (h : Bd X W P w K mg base 0 N_least_factor (defScope s_least_factor)) : QSs X B W (defBody s_least_factor) f_least_factor := by
  have v0 := h.vr (i := 0) (x := "number") (by rfl) (by decide +kernel)
  have v1 := h.vr (i := 1) (x := "prime") (by rfl) (by decide +kernel)
  have v2 := h.vr (i := 2) (x := "part") (by rfl) (by decide +kernel)
  have l1 := h.lr (i := 1) (x := "prime") (by rfl) (by decide +kernel)
  have l2 := h.lr (i := 2) (x := "part") (by rfl) (by decide +kernel)
  exact (ss_cons (s_for h.cc (i_seq (q_tup (a_cons q_int (a_cons q_int a_nil (by rfl)) (by rfl)))) (g_name l1)
  (ss_one (s_if (t_cmp (opq_eq (h.wd).hu) (by with_unfolding_all rfl) (QE.qr (q_op opq_mod (q_rd v0) (q_rd v1))) (QE.qr q_int))
  (ss_one (s_ret (q_var v1)))
  ss_nil)) (fun _ => rfl))
 (ss_cons (s_set l2 q_int (by rfl))
 (ss_cons (s_while h.cc (t_cmp opq_le (by with_unfolding_all rfl) (QE.qr (q_op opq_mul (q_rd v2) (q_rd v2))) (q_rd v0))
  (ss_cons (s_if (t_cmp (opq_eq (h.wd).hu) (by with_unfolding_all rfl) (QE.qr (q_op opq_mod (q_rd v0) (q_rd v2))) (QE.qr q_int))
  (ss_one (s_ret (q_var v2)))
  ss_nil)
 (ss_cons (s_if (t_cmp (opq_eq (h.wd).hu) (by with_unfolding_all rfl) (QE.qr (q_op opq_mod (q_rd v0) (QE.qr (q_op opq_add (q_rd v2) (QE.qr q_int))))) (QE.qr q_int))
  (ss_one (s_ret (q_op opq_add (q_rd v2) (QE.qr q_int))))
  ss_nil)
 (ss_one (s_set l2 (q_op opq_add (q_rd v2) (QE.qr q_int)) (by rfl))))))
 (ss_one (s_ret (q_var v0))))))

theorem sc_is_prime_in : FnScope N_is_prime_in ["number"] (defScope s_is_prime_in) := ⟨rfl, rfl, rfl, by decide +kernel, rfl, by decide +kernel, by decide +kernel⟩
theorem der_is_prime_in {P : Program} {w : World} {K : PySem.W.Frag} {mg : Str → Option Value} {base : Heap} (T : HdL exL tfL fa fn K mg base) (c_least_factor : CalleeK P w K mg base "least_factor" 1 1 m_least_factor) {X : Cx} {B : Gr} {W : WX} (h : Bd X W P w K mg base 1 N_is_prime_in (defScope s_is_prime_in)) : QSs X B W (defBody s_is_prime_in) f_is_prime_in := by
  have v0 := h.vr (i := 0) (x := "number") (by rfl) (by decide +kernel)
  have g_least_factor := h.gl (x := "least_factor") (by decide +kernel)
  exact (ss_one (s_ret (q_and (q_cmp opq_gt (by with_unfolding_all rfl) (q_rd v0) (QE.qr q_int)) (q_one (q_cmp (opq_eq (h.wd).hu) (by with_unfolding_all rfl) (QE.qr (q_call (Wd.callee h.wd c_least_factor g_least_factor (by rfl)) (h.wd.room.mono (by omega)) h.cc.tk (a_cons (q_var v0) a_nil (by rfl)) (len_cons len_nil).len (by rfl) (by rfl))) (q_rd v0))))))

theorem sc_power_in : FnScope N_power_in ["one", "times", "great"] (defScope s_power_in) := ⟨rfl, rfl, rfl, by decide +kernel, rfl, by decide +kernel, by decide +kernel⟩
theorem der_power_in {P : Program} {w : World} {K : PySem.W.Frag} {mg : Str → Option Value} {base : Heap} (T : HdL exL tfL fa fn K mg base) {X : Cx} {B : Gr} {W : WX} (h : Bd X W P w K mg base 0 N_power_in (defScope s_power_in)) : QSs X B W (defBody s_power_in) f_power_in := by
  have v0 := h.vr (i := 0) (x := "one") (by rfl) (by decide +kernel)
  have v1 := h.vr (i := 1) (x := "times") (by rfl) (by decide +kernel)
  have v2 := h.vr (i := 2) (x := "great") (by rfl) (by decide +kernel)
  have v3 := h.vr (i := 3) (x := "found") (by rfl) (by decide +kernel)
  have v4 := h.vr (i := 4) (x := "here") (by rfl) (by decide +kernel)
  have v5 := h.vr (i := 5) (x := "left") (by rfl) (by decide +kernel)
  have l3 := h.lr (i := 3) (x := "found") (by rfl) (by decide +kernel)
  have ll3 := h.ll (i := 3) (x := "found") (by rfl) (by decide +kernel)
  have ll4 := h.ll (i := 4) (x := "here") (by rfl) (by decide +kernel)
  have ll5 := h.ll (i := 5) (x := "left") (by rfl) (by decide +kernel)
  exact (ss_cons (s_par3 h.cc ll3 ll4 ll5 (by decide) (by decide) (by decide) (a_cons q_int (a_cons (q_op opq_mod (q_rd v0) (q_rd v2)) (a_cons (q_var v1) a_nil (by rfl)) (by rfl)) (by rfl)) (sw3 h.cc.kd ll3.loc ll4.loc ll5.loc (by decide +kernel) (by rfl) (by rfl) (by rfl) (by rfl) (by rfl)) (by rfl))
 (ss_cons (s_while h.cc (t_cmp opq_gt (by with_unfolding_all rfl) (q_rd v5) (QE.qr q_int))
  (ss_cons (s_if (t_cmp (opq_eq (h.wd).hu) (by with_unfolding_all rfl) (QE.qr (q_op opq_mod (q_rd v5) (QE.qr q_int))) (QE.qr q_int))
  (ss_one (s_set l3 (q_op opq_mod (QE.qr (q_op opq_mul (q_rd v3) (q_rd v4))) (q_rd v2)) (by rfl)))
  ss_nil)
 (ss_one (s_par2 h.cc ll4 ll5 (by decide) (a_cons (q_op opq_mod (QE.qr (q_op opq_mul (q_rd v4) (q_rd v4))) (q_rd v2)) (a_cons (q_op opq_div (q_rd v5) (QE.qr q_int)) a_nil (by rfl)) (by rfl)) (sw2 h.cc.kd ll4.loc ll5.loc (by decide +kernel) (by rfl) (by rfl) (by rfl) (by rfl)) (by rfl)))))
 (ss_one (s_ret (q_op opq_mod (q_rd v3) (q_rd v2))))))

theorem sc_sign_in : FnScope N_sign_in ["one", "odd"] (defScope s_sign_in) := ⟨rfl, rfl, rfl, by decide +kernel, rfl, by decide +kernel, by decide +kernel⟩
theorem der_sign_in {P : Program} {w : World} {K : PySem.W.Frag} {mg : Str → Option Value} {base : Heap} (T : HdL exL tfL fa fn K mg base) {X : Cx} {B : Gr} {W : WX} (h : Bd X W P w K mg base 0 N_sign_in (defScope s_sign_in)) : QSs X B W (defBody s_sign_in) f_sign_in := by
  have v0 := h.vr (i := 0) (x := "one") (by rfl) (by decide +kernel)
  have v1 := h.vr (i := 1) (x := "odd") (by rfl) (by decide +kernel)
  have v2 := h.vr (i := 2) (x := "sign") (by rfl) (by decide +kernel)
  have v3 := h.vr (i := 3) (x := "top") (by rfl) (by decide +kernel)
  have v4 := h.vr (i := 4) (x := "below") (by rfl) (by decide +kernel)
  have l2 := h.lr (i := 2) (x := "sign") (by rfl) (by decide +kernel)
  have l3 := h.lr (i := 3) (x := "top") (by rfl) (by decide +kernel)
  have ll2 := h.ll (i := 2) (x := "sign") (by rfl) (by decide +kernel)
  have ll3 := h.ll (i := 3) (x := "top") (by rfl) (by decide +kernel)
  have ll4 := h.ll (i := 4) (x := "below") (by rfl) (by decide +kernel)
  exact (ss_cons (s_par3 h.cc ll2 ll3 ll4 (by decide) (by decide) (by decide) (a_cons q_int (a_cons (q_op opq_mod (q_rd v0) (q_rd v1)) (a_cons (q_var v1) a_nil (by rfl)) (by rfl)) (by rfl)) (sw3 h.cc.kd ll2.loc ll3.loc ll4.loc (by decide +kernel) (by rfl) (by rfl) (by rfl) (by rfl) (by rfl)) (by rfl))
 (ss_cons (s_while h.cc (t_cmp (opq_ne (h.wd).hu) (by with_unfolding_all rfl) (q_rd v3) (QE.qr q_int))
  (ss_cons (s_while h.cc (t_cmp (opq_eq (h.wd).hu) (by with_unfolding_all rfl) (QE.qr (q_op opq_mod (q_rd v3) (QE.qr q_int))) (QE.qr q_int))
  (ss_cons (s_set l3 (q_op opq_div (q_rd v3) (QE.qr q_int)) (by rfl))
 (ss_one (s_set l2 (q_if (t_cmp opq_in (by with_unfolding_all rfl) (QE.qr (q_op opq_mod (q_rd v4) (QE.qr q_int))) (QE.qr (q_tup (a_cons q_int (a_cons q_int a_nil (by rfl)) (by rfl))))) (q_neg (q_var v2)) (q_var v2)) (by rfl)))))
 (ss_cons (s_set l2 (q_if (t_w (w_and (t_cmp (opq_eq (h.wd).hu) (by with_unfolding_all rfl) (QE.qr (q_op opq_mod (q_rd v3) (QE.qr q_int))) (QE.qr q_int)) (w_and1 (t_cmp (opq_eq (h.wd).hu) (by with_unfolding_all rfl) (QE.qr (q_op opq_mod (q_rd v4) (QE.qr q_int))) (QE.qr q_int))))) (q_neg (q_var v2)) (q_var v2)) (by rfl))
 (ss_one (s_par2 h.cc ll3 ll4 (by decide) (a_cons (q_op opq_mod (q_rd v4) (q_rd v3)) (a_cons (q_var v3) a_nil (by rfl)) (by rfl)) (sw2 h.cc.kd ll3.loc ll4.loc (by decide +kernel) (by rfl) (by rfl) (by rfl) (by rfl)) (by rfl))))))
 (ss_one (s_ret (q_if (t_cmp (opq_eq (h.wd).hu) (by with_unfolding_all rfl) (q_rd v4) (QE.qr q_int)) (q_var v2) q_int)))))

theorem sc_above_in : FnScope N_above_in ["front", "power"] (defScope s_above_in) := ⟨rfl, rfl, rfl, by decide +kernel, rfl, by decide +kernel, by decide +kernel⟩
theorem der_above_in {P : Program} {w : World} {K : PySem.W.Frag} {mg : Str → Option Value} {base : Heap} (T : HdL exL tfL fa fn K mg base) {X : Cx} {B : Gr} {W : WX} (h : Bd X W P w K mg base 0 N_above_in (defScope s_above_in)) : QSs X B W (defBody s_above_in) f_above_in := by
  have v0 := h.vr (i := 0) (x := "front") (by rfl) (by decide +kernel)
  have v1 := h.vr (i := 1) (x := "power") (by rfl) (by decide +kernel)
  have v2 := h.vr (i := 2) (x := "found") (by rfl) (by decide +kernel)
  have l2 := h.lr (i := 2) (x := "found") (by rfl) (by decide +kernel)
  have l3 := h.lr (i := 3) (x := "turn") (by rfl) (by decide +kernel)
  have g_range := h.gl (x := "range") (by decide +kernel)
  exact (ss_cons (s_set l2 (q_var v0) (by rfl))
 (ss_cons (s_for h.cc (i_r1 (h.wd.blt (T.free 84 (by rfl)) g_range) (a_cons (q_var v1) a_nil (by rfl)) (by rfl)) (g_name l3)
  (ss_one (s_set l2 (q_op opq_mul (QE.qr q_int) (q_rd v2)) (by rfl))) (fun _ => rfl))
 (ss_one (s_ret (q_op opq_add (q_rd v2) (QE.qr q_int))))))

theorem sc_fits_two_shape : FnScope N_fits_two_shape ["front", "power"] (defScope s_fits_two_shape) := ⟨rfl, rfl, rfl, by decide +kernel, rfl, by decide +kernel, by decide +kernel⟩
theorem der_fits_two_shape {P : Program} {w : World} {K : PySem.W.Frag} {mg : Str → Option Value} {base : Heap} (T : HdL exL tfL fa fn K mg base) (c_is_whole : CalleeK P w K mg base "is_whole" 2 3 m_is_whole) (c_above_in : CalleeK P w K mg base "above_in" 1 2 m_above_in) {X : Cx} {B : Gr} {W : WX} (h : Bd X W P w K mg base 2 N_fits_two_shape (defScope s_fits_two_shape)) : QSs X B W (defBody s_fits_two_shape) f_fits_two_shape := by
  have v0 := h.vr (i := 0) (x := "front") (by rfl) (by decide +kernel)
  have v1 := h.vr (i := 1) (x := "power") (by rfl) (by decide +kernel)
  have g_GREAT := h.gl (x := "GREAT") (by decide +kernel)
  have g_MOST_POWER := h.gl (x := "MOST_POWER") (by decide +kernel)
  have g_above_in := h.gl (x := "above_in") (by decide +kernel)
  have g_is_whole := h.gl (x := "is_whole") (by decide +kernel)
  exact (ss_cons (s_if (t_w (w_or (t_not (t_val (q_call (Wd.callee h.wd c_is_whole g_is_whole (by rfl)) (h.wd.room.mono (by omega)) h.cc.tk (a_cons (q_var v0) (a_cons q_int (a_cons (q_gint g_GREAT (h.wd.gint (T.int 68 (by rfl))) (by rfl)) a_nil (by rfl)) (by rfl)) (by rfl)) (len_cons (len_cons (len_cons len_nil))).len (by rfl) (by rfl)) (fun _ => rfl))) (w_or (t_cmp (opq_eq (h.wd).hu) (by with_unfolding_all rfl) (QE.qr (q_op opq_mod (q_rd v0) (QE.qr q_int))) (QE.qr q_int)) (w_or1 (t_not (t_val (q_call (Wd.callee h.wd c_is_whole g_is_whole (by rfl)) (h.wd.room.mono (by omega)) h.cc.tk (a_cons (q_var v1) (a_cons q_int (a_cons (q_gint g_MOST_POWER (h.wd.gint (T.int 70 (by rfl))) (by rfl)) a_nil (by rfl)) (by rfl)) (by rfl)) (len_cons (len_cons (len_cons len_nil))).len (by rfl) (by rfl)) (fun _ => rfl)))))))
  (ss_one (s_ret q_bl))
  ss_nil)
 (ss_one (s_ret (q_and (q_cmp opq_gt (by with_unfolding_all rfl) (QE.qr (q_op opq_sub (QE.qr (q_call (Wd.callee h.wd c_above_in g_above_in (by rfl)) (h.wd.room.mono (by omega)) h.cc.tk (a_cons q_int (a_cons (q_var v1) a_nil (by rfl)) (by rfl)) (len_cons (len_cons len_nil)).len (by rfl) (by rfl))) (QE.qr q_int))) (q_rd v0)) (q_one (q_cmp opq_le (by with_unfolding_all rfl) (QE.qr (q_call (Wd.callee h.wd c_above_in g_above_in (by rfl)) (h.wd.room.mono (by omega)) h.cc.tk (a_cons (q_var v0) (a_cons (q_var v1) a_nil (by rfl)) (by rfl)) (len_cons (len_cons len_nil)).len (by rfl) (by rfl))) (QE.qr (q_gint g_GREAT (h.wd.gint (T.int 68 (by rfl))) (by rfl)))))))))

theorem sc_need_two_shape : FnScope N_need_two_shape ["front", "power"] (defScope s_need_two_shape) := ⟨rfl, rfl, rfl, by decide +kernel, rfl, by decide +kernel, by decide +kernel⟩
theorem der_need_two_shape {P : Program} {w : World} {K : PySem.W.Frag} {mg : Str → Option Value} {base : Heap} (T : HdL exL tfL fa fn K mg base) (c_fits_two_shape : CalleeK P w K mg base "fits_two_shape" 3 2 m_fits_two_shape) {X : Cx} {B : Gr} {W : WX} (h : Bd X W P w K mg base 3 N_need_two_shape (defScope s_need_two_shape)) : QSs X B W (defBody s_need_two_shape) f_need_two_shape := by
  have v0 := h.vr (i := 0) (x := "front") (by rfl) (by decide +kernel)
  have v1 := h.vr (i := 1) (x := "power") (by rfl) (by decide +kernel)
  have g_InvalidShape := h.gl (x := "InvalidShape") (by decide +kernel)
  have g_fits_two_shape := h.gl (x := "fits_two_shape") (by decide +kernel)
  exact (ss_one (s_if (t_not (t_val (q_call (Wd.callee h.wd c_fits_two_shape g_fits_two_shape (by rfl)) (h.wd.room.mono (by omega)) h.cc.tk (a_cons (q_var v0) (a_cons (q_var v1) a_nil (by rfl)) (by rfl)) (len_cons (len_cons len_nil)).len (by rfl) (by rfl)) (fun _ => rfl)))
  (ss_one (s_raise (h.wd.exc g_InvalidShape (by rfl) (T.glo 62 (by rfl)) (T.exc 67 (by rfl))) h.cc))
  ss_nil))

theorem sc_shape_in : FnScope N_shape_in ["great"] (defScope s_shape_in) := ⟨rfl, rfl, rfl, by decide +kernel, rfl, by decide +kernel, by decide +kernel⟩
theorem der_shape_in {P : Program} {w : World} {K : PySem.W.Frag} {mg : Str → Option Value} {base : Heap} (T : HdL exL tfL fa fn K mg base) {X : Cx} {B : Gr} {W : WX} (h : Bd X W P w K mg base 0 N_shape_in (defScope s_shape_in)) : QSs X B W (defBody s_shape_in) f_shape_in := by
  have v0 := h.vr (i := 0) (x := "great") (by rfl) (by decide +kernel)
  have v1 := h.vr (i := 1) (x := "front") (by rfl) (by decide +kernel)
  have v2 := h.vr (i := 2) (x := "power") (by rfl) (by decide +kernel)
  have ll1 := h.ll (i := 1) (x := "front") (by rfl) (by decide +kernel)
  have ll2 := h.ll (i := 2) (x := "power") (by rfl) (by decide +kernel)
  exact (ss_cons (s_par2 h.cc ll1 ll2 (by decide) (a_cons (q_op opq_sub (q_rd v0) (QE.qr q_int)) (a_cons q_int a_nil (by rfl)) (by rfl)) (sw2 h.cc.kd ll1.loc ll2.loc (by decide +kernel) (by rfl) (by rfl) (by rfl) (by rfl)) (by rfl))
 (ss_cons (s_while h.cc (t_cmp (opq_eq (h.wd).hu) (by with_unfolding_all rfl) (QE.qr (q_op opq_mod (q_rd v1) (QE.qr q_int))) (QE.qr q_int))
  (ss_one (s_par2 h.cc ll1 ll2 (by decide) (a_cons (q_op opq_div (q_rd v1) (QE.qr q_int)) (a_cons (q_op opq_add (q_rd v2) (QE.qr q_int)) a_nil (by rfl)) (by rfl)) (sw2 h.cc.kd ll1.loc ll2.loc (by decide +kernel) (by rfl) (by rfl) (by rfl) (by rfl)) (by rfl))))
 (ss_one (s_ret (q_tup (a_cons (q_var v1) (a_cons (q_var v2) a_nil (by rfl)) (by rfl)))))))

theorem sc_half_in : FnScope N_half_in ["base", "great"] (defScope s_half_in) := ⟨rfl, rfl, rfl, by decide +kernel, rfl, by decide +kernel, by decide +kernel⟩
theorem der_half_in {P : Program} {w : World} {K : PySem.W.Frag} {mg : Str → Option Value} {base : Heap} (T : HdL exL tfL fa fn K mg base) (c_power_in : CalleeK P w K mg base "power_in" 1 3 m_power_in) {X : Cx} {B : Gr} {W : WX} (h : Bd X W P w K mg base 1 N_half_in (defScope s_half_in)) : QSs X B W (defBody s_half_in) f_half_in := by
  have v0 := h.vr (i := 0) (x := "base") (by rfl) (by decide +kernel)
  have v1 := h.vr (i := 1) (x := "great") (by rfl) (by decide +kernel)
  have g_power_in := h.gl (x := "power_in") (by decide +kernel)
  exact (ss_one (s_ret (q_call (Wd.callee h.wd c_power_in g_power_in (by rfl)) (h.wd.room.mono (by omega)) h.cc.tk (a_cons (q_var v0) (a_cons (q_op opq_div (q_rd v1) (QE.qr q_int)) (a_cons (q_var v1) a_nil (by rfl)) (by rfl)) (by rfl)) (len_cons (len_cons (len_cons len_nil))).len (by rfl) (by rfl))))

theorem sc_is_square_number : FnScope N_is_square_number ["number"] (defScope s_is_square_number) := ⟨rfl, rfl, rfl, by decide +kernel, rfl, by decide +kernel, by decide +kernel⟩
theorem der_is_square_number {P : Program} {w : World} {K : PySem.W.Frag} {mg : Str → Option Value} {base : Heap} (T : HdL exL tfL fa fn K mg base) {X : Cx} {B : Gr} {W : WX} (h : Bd X W P w K mg base 0 N_is_square_number (defScope s_is_square_number)) : QSs X B W (defBody s_is_square_number) f_is_square_number := by
  have v0 := h.vr (i := 0) (x := "number") (by rfl) (by decide +kernel)
  have v1 := h.vr (i := 1) (x := "low") (by rfl) (by decide +kernel)
  have v2 := h.vr (i := 2) (x := "high") (by rfl) (by decide +kernel)
  have v3 := h.vr (i := 3) (x := "middle") (by rfl) (by decide +kernel)
  have l1 := h.lr (i := 1) (x := "low") (by rfl) (by decide +kernel)
  have l2 := h.lr (i := 2) (x := "high") (by rfl) (by decide +kernel)
  have l3 := h.lr (i := 3) (x := "middle") (by rfl) (by decide +kernel)
  have ll1 := h.ll (i := 1) (x := "low") (by rfl) (by decide +kernel)
  have ll2 := h.ll (i := 2) (x := "high") (by rfl) (by decide +kernel)
  exact (ss_cons (s_par2 h.cc ll1 ll2 (by decide) (a_cons q_int (a_cons (q_op opq_add (q_rd v0) (QE.qr q_int)) a_nil (by rfl)) (by rfl)) (sw2 h.cc.kd ll1.loc ll2.loc (by decide +kernel) (by rfl) (by rfl) (by rfl) (by rfl)) (by rfl))
 (ss_cons (s_while h.cc (t_cmp opq_gt (by with_unfolding_all rfl) (QE.qr (q_op opq_sub (q_rd v2) (q_rd v1))) (QE.qr q_int))
  (ss_cons (s_set l3 (q_op opq_div (QE.qr (q_op opq_add (q_rd v1) (q_rd v2))) (QE.qr q_int)) (by rfl))
 (ss_one (s_if (t_cmp opq_le (by with_unfolding_all rfl) (QE.qr (q_op opq_mul (q_rd v3) (q_rd v3))) (q_rd v0))
  (ss_one (s_set l1 (q_var v3) (by rfl)))
  (ss_one (s_set l2 (q_var v3) (by rfl)))))))
 (ss_one (s_ret (q_cmp (opq_eq (h.wd).hu) (by with_unfolding_all rfl) (QE.qr (q_op opq_mul (q_rd v1) (q_rd v1))) (q_rd v0))))))

theorem sc_paper_base : FnScope N_paper_base ["great"] (defScope s_paper_base) := ⟨rfl, rfl, rfl, by decide +kernel, rfl, by decide +kernel, by decide +kernel⟩
theorem der_paper_base {P : Program} {w : World} {K : PySem.W.Frag} {mg : Str → Option Value} {base : Heap} (T : HdL exL tfL fa fn K mg base) (c_sign_in : CalleeK P w K mg base "sign_in" 1 2 m_sign_in) {X : Cx} {B : Gr} {W : WX} (h : Bd X W P w K mg base 1 N_paper_base (defScope s_paper_base)) : QSs X B W (defBody s_paper_base) f_paper_base := by
  have v0 := h.vr (i := 0) (x := "great") (by rfl) (by decide +kernel)
  have v1 := h.vr (i := 1) (x := "base") (by rfl) (by decide +kernel)
  have l1 := h.lr (i := 1) (x := "base") (by rfl) (by decide +kernel)
  have g_sign_in := h.gl (x := "sign_in") (by decide +kernel)
  exact (ss_cons (s_set l1 q_int (by rfl))
 (ss_cons (s_while h.cc (t_cmp (opq_eq (h.wd).hu) (by with_unfolding_all rfl) (QE.qr (q_call (Wd.callee h.wd c_sign_in g_sign_in (by rfl)) (h.wd.room.mono (by omega)) h.cc.tk (a_cons (q_var v1) (a_cons (q_var v0) a_nil (by rfl)) (by rfl)) (len_cons (len_cons len_nil)).len (by rfl) (by rfl))) (QE.qr q_int))
  (ss_one (s_set l1 (q_op opq_add (q_rd v1) (QE.qr q_int)) (by rfl))))
 (ss_one (s_ret (q_var v1)))))

theorem sc_is_prime_above : FnScope N_is_prime_above ["great"] (defScope s_is_prime_above) := ⟨rfl, rfl, rfl, by decide +kernel, rfl, by decide +kernel, by decide +kernel⟩
theorem der_is_prime_above {P : Program} {w : World} {K : PySem.W.Frag} {mg : Str → Option Value} {base : Heap} (T : HdL exL tfL fa fn K mg base) (c_is_square_number : CalleeK P w K mg base "is_square_number" 1 1 m_is_square_number) (c_paper_base : CalleeK P w K mg base "paper_base" 2 1 m_paper_base) (c_half_in : CalleeK P w K mg base "half_in" 2 2 m_half_in) {X : Cx} {B : Gr} {W : WX} (h : Bd X W P w K mg base 2 N_is_prime_above (defScope s_is_prime_above)) : QSs X B W (defBody s_is_prime_above) f_is_prime_above := by
  have v0 := h.vr (i := 0) (x := "great") (by rfl) (by decide +kernel)
  have g_half_in := h.gl (x := "half_in") (by decide +kernel)
  have g_is_square_number := h.gl (x := "is_square_number") (by decide +kernel)
  have g_paper_base := h.gl (x := "paper_base") (by decide +kernel)
  exact (ss_cons (s_if (t_cmp (opq_eq (h.wd).hu) (by with_unfolding_all rfl) (q_rd v0) (QE.qr q_int))
  (ss_one (s_ret q_bl))
  ss_nil)
 (ss_one (s_ret (q_and (q_not (q_call (Wd.callee h.wd c_is_square_number g_is_square_number (by rfl)) (h.wd.room.mono (by omega)) h.cc.tk (a_cons (q_var v0) a_nil (by rfl)) (len_cons len_nil).len (by rfl) (by rfl))) (q_one (q_cmp (opq_eq (h.wd).hu) (by with_unfolding_all rfl) (QE.qr (q_call (Wd.callee h.wd c_half_in g_half_in (by rfl)) (h.wd.room.mono (by omega)) h.cc.tk (a_cons (q_call (Wd.callee h.wd c_paper_base g_paper_base (by rfl)) (h.wd.room.mono (by omega)) h.cc.tk (a_cons (q_var v0) a_nil (by rfl)) (len_cons len_nil).len (by rfl) (by rfl)) (a_cons (q_var v0) a_nil (by rfl)) (by rfl)) (len_cons (len_cons len_nil)).len (by rfl) (by rfl))) (QE.qr (q_op opq_sub (q_rd v0) (QE.qr q_int)))))))))

theorem sc_is_false_in : FnScope N_is_false_in ["base", "great"] (defScope s_is_false_in) := ⟨rfl, rfl, rfl, by decide +kernel, rfl, by decide +kernel, by decide +kernel⟩
theorem der_is_false_in {P : Program} {w : World} {K : PySem.W.Frag} {mg : Str → Option Value} {base : Heap} (T : HdL exL tfL fa fn K mg base) (c_sign_in : CalleeK P w K mg base "sign_in" 1 2 m_sign_in) (c_half_in : CalleeK P w K mg base "half_in" 2 2 m_half_in) {X : Cx} {B : Gr} {W : WX} (h : Bd X W P w K mg base 2 N_is_false_in (defScope s_is_false_in)) : QSs X B W (defBody s_is_false_in) f_is_false_in := by
  have v0 := h.vr (i := 0) (x := "base") (by rfl) (by decide +kernel)
  have v1 := h.vr (i := 1) (x := "great") (by rfl) (by decide +kernel)
  have v2 := h.vr (i := 2) (x := "rest") (by rfl) (by decide +kernel)
  have v3 := h.vr (i := 3) (x := "sign") (by rfl) (by decide +kernel)
  have ll2 := h.ll (i := 2) (x := "rest") (by rfl) (by decide +kernel)
  have ll3 := h.ll (i := 3) (x := "sign") (by rfl) (by decide +kernel)
  have g_half_in := h.gl (x := "half_in") (by decide +kernel)
  have g_sign_in := h.gl (x := "sign_in") (by decide +kernel)
  exact (ss_cons (s_par2 h.cc ll2 ll3 (by decide) (a_cons (q_call (Wd.callee h.wd c_half_in g_half_in (by rfl)) (h.wd.room.mono (by omega)) h.cc.tk (a_cons (q_var v0) (a_cons (q_var v1) a_nil (by rfl)) (by rfl)) (len_cons (len_cons len_nil)).len (by rfl) (by rfl)) (a_cons (q_call (Wd.callee h.wd c_sign_in g_sign_in (by rfl)) (h.wd.room.mono (by omega)) h.cc.tk (a_cons (q_var v0) (a_cons (q_var v1) a_nil (by rfl)) (by rfl)) (len_cons (len_cons len_nil)).len (by rfl) (by rfl)) a_nil (by rfl)) (by rfl)) (sw2 h.cc.kd ll2.loc ll3.loc (by decide +kernel) (by rfl) (by rfl) (by rfl) (by rfl)) (by rfl))
 (ss_cons (s_if (t_cmp (opq_eq (h.wd).hu) (by with_unfolding_all rfl) (q_rd v2) (QE.qr q_int))
  (ss_one (s_ret (q_cmp (opq_ne (h.wd).hu) (by with_unfolding_all rfl) (q_rd v3) (QE.qr q_int))))
  ss_nil)
 (ss_one (s_ret (q_or (q_cmp (opq_ne (h.wd).hu) (by with_unfolding_all rfl) (q_rd v2) (QE.qr (q_op opq_sub (q_rd v1) (QE.qr q_int)))) (q_one (q_cmp (opq_ne (h.wd).hu) (by with_unfolding_all rfl) (q_rd v3) (QE.qr (q_neg q_int)))))))))

theorem sc_is_odd_great : FnScope N_is_odd_great ["value"] (defScope s_is_odd_great) := ⟨rfl, rfl, rfl, by decide +kernel, rfl, by decide +kernel, by decide +kernel⟩
theorem der_is_odd_great {P : Program} {w : World} {K : PySem.W.Frag} {mg : Str → Option Value} {base : Heap} (T : HdL exL tfL fa fn K mg base) (c_is_whole : CalleeK P w K mg base "is_whole" 2 3 m_is_whole) {X : Cx} {B : Gr} {W : WX} (h : Bd X W P w K mg base 2 N_is_odd_great (defScope s_is_odd_great)) : QSs X B W (defBody s_is_odd_great) f_is_odd_great := by
  have v0 := h.vr (i := 0) (x := "value") (by rfl) (by decide +kernel)
  have g_GREAT := h.gl (x := "GREAT") (by decide +kernel)
  have g_is_whole := h.gl (x := "is_whole") (by decide +kernel)
  exact (ss_one (s_ret (q_and (q_call (Wd.callee h.wd c_is_whole g_is_whole (by rfl)) (h.wd.room.mono (by omega)) h.cc.tk (a_cons (q_var v0) (a_cons q_int (a_cons (q_gint g_GREAT (h.wd.gint (T.int 68 (by rfl))) (by rfl)) a_nil (by rfl)) (by rfl)) (by rfl)) (len_cons (len_cons (len_cons len_nil))).len (by rfl) (by rfl)) (q_one (q_cmp (opq_eq (h.wd).hu) (by with_unfolding_all rfl) (QE.qr (q_op opq_mod (q_rd v0) (QE.qr q_int))) (QE.qr q_int))))))

theorem sc_is_base_to : FnScope N_is_base_to ["value", "great"] (defScope s_is_base_to) := ⟨rfl, rfl, rfl, by decide +kernel, rfl, by decide +kernel, by decide +kernel⟩
theorem der_is_base_to {P : Program} {w : World} {K : PySem.W.Frag} {mg : Str → Option Value} {base : Heap} (T : HdL exL tfL fa fn K mg base) (c_is_integer : CalleeK P w K mg base "is_integer" 1 1 m_is_integer) {X : Cx} {B : Gr} {W : WX} (h : Bd X W P w K mg base 1 N_is_base_to (defScope s_is_base_to)) : QSs X B W (defBody s_is_base_to) f_is_base_to := by
  have v0 := h.vr (i := 0) (x := "value") (by rfl) (by decide +kernel)
  have v1 := h.vr (i := 1) (x := "great") (by rfl) (by decide +kernel)
  have g_is_integer := h.gl (x := "is_integer") (by decide +kernel)
  exact (ss_one (s_ret (q_and (q_call (Wd.callee h.wd c_is_integer g_is_integer (by rfl)) (h.wd.room.mono (by omega)) h.cc.tk (a_cons (q_var v0) a_nil (by rfl)) (len_cons len_nil).len (by rfl) (by rfl)) (q_one (q_chain opq_le opq_lt (QE.qr q_int) (q_rd v0) (q_rd v1) (by with_unfolding_all rfl))))))

theorem sc_is_two_shape : FnScope N_is_two_shape ["front", "power"] (defScope s_is_two_shape) := ⟨rfl, rfl, rfl, by decide +kernel, rfl, by decide +kernel, by decide +kernel⟩
theorem der_is_two_shape {P : Program} {w : World} {K : PySem.W.Frag} {mg : Str → Option Value} {base : Heap} (T : HdL exL tfL fa fn K mg base) (c_fits_two_shape : CalleeK P w K mg base "fits_two_shape" 3 2 m_fits_two_shape) {X : Cx} {B : Gr} {W : WX} (h : Bd X W P w K mg base 3 N_is_two_shape (defScope s_is_two_shape)) : QSs X B W (defBody s_is_two_shape) f_is_two_shape := by
  have v0 := h.vr (i := 0) (x := "front") (by rfl) (by decide +kernel)
  have v1 := h.vr (i := 1) (x := "power") (by rfl) (by decide +kernel)
  have g_fits_two_shape := h.gl (x := "fits_two_shape") (by decide +kernel)
  exact (ss_one (s_ret (q_call (Wd.callee h.wd c_fits_two_shape g_fits_two_shape (by rfl)) (h.wd.room.mono (by omega)) h.cc.tk (a_cons (q_var v0) (a_cons (q_var v1) a_nil (by rfl)) (by rfl)) (len_cons (len_cons len_nil)).len (by rfl) (by rfl))))

theorem sc_number_above : FnScope N_number_above ["front", "power"] (defScope s_number_above) := ⟨rfl, rfl, rfl, by decide +kernel, rfl, by decide +kernel, by decide +kernel⟩
theorem der_number_above {P : Program} {w : World} {K : PySem.W.Frag} {mg : Str → Option Value} {base : Heap} (T : HdL exL tfL fa fn K mg base) (c_need_two_shape : CalleeK P w K mg base "need_two_shape" 4 2 m_need_two_shape) (c_above_in : CalleeK P w K mg base "above_in" 1 2 m_above_in) {X : Cx} {B : Gr} {W : WX} (h : Bd X W P w K mg base 4 N_number_above (defScope s_number_above)) : QSs X B W (defBody s_number_above) f_number_above := by
  have v0 := h.vr (i := 0) (x := "front") (by rfl) (by decide +kernel)
  have v1 := h.vr (i := 1) (x := "power") (by rfl) (by decide +kernel)
  have g_above_in := h.gl (x := "above_in") (by decide +kernel)
  have g_need_two_shape := h.gl (x := "need_two_shape") (by decide +kernel)
  exact (ss_cons (s_exp (q_call (Wd.callee h.wd c_need_two_shape g_need_two_shape (by rfl)) (h.wd.room.mono (by omega)) h.cc.tk (a_cons (q_var v0) (a_cons (q_var v1) a_nil (by rfl)) (by rfl)) (len_cons (len_cons len_nil)).len (by rfl) (by rfl)) (by rfl))
 (ss_one (s_ret (q_call (Wd.callee h.wd c_above_in g_above_in (by rfl)) (h.wd.room.mono (by omega)) h.cc.tk (a_cons (q_var v0) (a_cons (q_var v1) a_nil (by rfl)) (by rfl)) (len_cons (len_cons len_nil)).len (by rfl) (by rfl)))))

theorem sc_shape_of : FnScope N_shape_of ["great"] (defScope s_shape_of) := ⟨rfl, rfl, rfl, by decide +kernel, rfl, by decide +kernel, by decide +kernel⟩
theorem der_shape_of {P : Program} {w : World} {K : PySem.W.Frag} {mg : Str → Option Value} {base : Heap} (T : HdL exL tfL fa fn K mg base) (c_is_odd_great : CalleeK P w K mg base "is_odd_great" 3 1 m_is_odd_great) (c_shape_in : CalleeK P w K mg base "shape_in" 1 1 m_shape_in) (c_fits_two_shape : CalleeK P w K mg base "fits_two_shape" 3 2 m_fits_two_shape) {X : Cx} {B : Gr} {W : WX} (h : Bd X W P w K mg base 3 N_shape_of (defScope s_shape_of)) : QSs X B W (defBody s_shape_of) f_shape_of := by
  have v0 := h.vr (i := 0) (x := "great") (by rfl) (by decide +kernel)
  have v1 := h.vr (i := 1) (x := "front") (by rfl) (by decide +kernel)
  have v2 := h.vr (i := 2) (x := "power") (by rfl) (by decide +kernel)
  have l1 := h.lr (i := 1) (x := "front") (by rfl) (by decide +kernel)
  have l2 := h.lr (i := 2) (x := "power") (by rfl) (by decide +kernel)
  have g_InvalidNumber := h.gl (x := "InvalidNumber") (by decide +kernel)
  have g_fits_two_shape := h.gl (x := "fits_two_shape") (by decide +kernel)
  have g_is_odd_great := h.gl (x := "is_odd_great") (by decide +kernel)
  have g_shape_in := h.gl (x := "shape_in") (by decide +kernel)
  exact (ss_cons (s_if (t_not (t_val (q_call (Wd.callee h.wd c_is_odd_great g_is_odd_great (by rfl)) (h.wd.room.mono (by omega)) h.cc.tk (a_cons (q_var v0) a_nil (by rfl)) (len_cons len_nil).len (by rfl) (by rfl)) (fun _ => rfl)))
  (ss_one (s_raise (h.wd.exc g_InvalidNumber (by rfl) (T.glo 59 (by rfl)) (T.exc 64 (by rfl))) h.cc))
  ss_nil)
 (ss_cons (s_asg (q_call (Wd.callee h.wd c_shape_in g_shape_in (by rfl)) (h.wd.room.mono (by omega)) h.cc.tk (a_cons (q_var v0) a_nil (by rfl)) (len_cons len_nil).len (by rfl) (by rfl)) (g_tup h.cc.calm (gs_cons (g_name l1) (gs_cons (g_name l2) gs_nil (by rfl)) (by rfl)) (gl_cons (gl_cons gl_nil)).len (by rfl) (by rfl)) (by rfl) (by rfl) (by rfl))
 (ss_one (s_ret (q_if (t_val (q_call (Wd.callee h.wd c_fits_two_shape g_fits_two_shape (by rfl)) (h.wd.room.mono (by omega)) h.cc.tk (a_cons (q_var v1) (a_cons (q_var v2) a_nil (by rfl)) (by rfl)) (len_cons (len_cons len_nil)).len (by rfl) (by rfl)) (fun _ => rfl)) (q_tup (a_cons (q_var v1) (a_cons (q_var v2) a_nil (by rfl)) (by rfl))) q_non)))))

theorem sc_half_rest : FnScope N_half_rest ["base", "great"] (defScope s_half_rest) := ⟨rfl, rfl, rfl, by decide +kernel, rfl, by decide +kernel, by decide +kernel⟩
theorem der_half_rest {P : Program} {w : World} {K : PySem.W.Frag} {mg : Str → Option Value} {base : Heap} (T : HdL exL tfL fa fn K mg base) (c_is_whole : CalleeK P w K mg base "is_whole" 2 3 m_is_whole) (c_is_odd_great : CalleeK P w K mg base "is_odd_great" 3 1 m_is_odd_great) (c_half_in : CalleeK P w K mg base "half_in" 2 2 m_half_in) {X : Cx} {B : Gr} {W : WX} (h : Bd X W P w K mg base 3 N_half_rest (defScope s_half_rest)) : QSs X B W (defBody s_half_rest) f_half_rest := by
  have v0 := h.vr (i := 0) (x := "base") (by rfl) (by decide +kernel)
  have v1 := h.vr (i := 1) (x := "great") (by rfl) (by decide +kernel)
  have g_InvalidBase := h.gl (x := "InvalidBase") (by decide +kernel)
  have g_InvalidNumber := h.gl (x := "InvalidNumber") (by decide +kernel)
  have g_LONG := h.gl (x := "LONG") (by decide +kernel)
  have g_half_in := h.gl (x := "half_in") (by decide +kernel)
  have g_is_odd_great := h.gl (x := "is_odd_great") (by decide +kernel)
  have g_is_whole := h.gl (x := "is_whole") (by decide +kernel)
  exact (ss_cons (s_if (t_not (t_val (q_call (Wd.callee h.wd c_is_whole g_is_whole (by rfl)) (h.wd.room.mono (by omega)) h.cc.tk (a_cons (q_var v0) (a_cons (q_op opq_sub (QE.qr q_int) (QE.qr (q_gint g_LONG (h.wd.gint (T.int 69 (by rfl))) (by rfl)))) (a_cons (q_op opq_sub (QE.qr (q_gint g_LONG (h.wd.gint (T.int 69 (by rfl))) (by rfl))) (QE.qr q_int)) a_nil (by rfl)) (by rfl)) (by rfl)) (len_cons (len_cons (len_cons len_nil))).len (by rfl) (by rfl)) (fun _ => rfl)))
  (ss_one (s_raise (h.wd.exc g_InvalidBase (by rfl) (T.glo 61 (by rfl)) (T.exc 66 (by rfl))) h.cc))
  ss_nil)
 (ss_cons (s_if (t_not (t_val (q_call (Wd.callee h.wd c_is_odd_great g_is_odd_great (by rfl)) (h.wd.room.mono (by omega)) h.cc.tk (a_cons (q_var v1) a_nil (by rfl)) (len_cons len_nil).len (by rfl) (by rfl)) (fun _ => rfl)))
  (ss_one (s_raise (h.wd.exc g_InvalidNumber (by rfl) (T.glo 59 (by rfl)) (T.exc 64 (by rfl))) h.cc))
  ss_nil)
 (ss_one (s_ret (q_call (Wd.callee h.wd c_half_in g_half_in (by rfl)) (h.wd.room.mono (by omega)) h.cc.tk (a_cons (q_var v0) (a_cons (q_var v1) a_nil (by rfl)) (by rfl)) (len_cons (len_cons len_nil)).len (by rfl) (by rfl))))))

theorem sc_is_shape_prime : FnScope N_is_shape_prime ["front", "power"] (defScope s_is_shape_prime) := ⟨rfl, rfl, rfl, by decide +kernel, rfl, by decide +kernel, by decide +kernel⟩
theorem der_is_shape_prime {P : Program} {w : World} {K : PySem.W.Frag} {mg : Str → Option Value} {base : Heap} (T : HdL exL tfL fa fn K mg base) (c_need_two_shape : CalleeK P w K mg base "need_two_shape" 4 2 m_need_two_shape) (c_above_in : CalleeK P w K mg base "above_in" 1 2 m_above_in) (c_is_prime_above : CalleeK P w K mg base "is_prime_above" 3 1 m_is_prime_above) {X : Cx} {B : Gr} {W : WX} (h : Bd X W P w K mg base 4 N_is_shape_prime (defScope s_is_shape_prime)) : QSs X B W (defBody s_is_shape_prime) f_is_shape_prime := by
  have v0 := h.vr (i := 0) (x := "front") (by rfl) (by decide +kernel)
  have v1 := h.vr (i := 1) (x := "power") (by rfl) (by decide +kernel)
  have g_above_in := h.gl (x := "above_in") (by decide +kernel)
  have g_is_prime_above := h.gl (x := "is_prime_above") (by decide +kernel)
  have g_need_two_shape := h.gl (x := "need_two_shape") (by decide +kernel)
  exact (ss_cons (s_exp (q_call (Wd.callee h.wd c_need_two_shape g_need_two_shape (by rfl)) (h.wd.room.mono (by omega)) h.cc.tk (a_cons (q_var v0) (a_cons (q_var v1) a_nil (by rfl)) (by rfl)) (len_cons (len_cons len_nil)).len (by rfl) (by rfl)) (by rfl))
 (ss_one (s_ret (q_call (Wd.callee h.wd c_is_prime_above g_is_prime_above (by rfl)) (h.wd.room.mono (by omega)) h.cc.tk (a_cons (q_call (Wd.callee h.wd c_above_in g_above_in (by rfl)) (h.wd.room.mono (by omega)) h.cc.tk (a_cons (q_var v0) (a_cons (q_var v1) a_nil (by rfl)) (by rfl)) (len_cons (len_cons len_nil)).len (by rfl) (by rfl)) a_nil (by rfl)) (len_cons len_nil).len (by rfl) (by rfl)))))

theorem sc_proth_paper : FnScope N_proth_paper ["front", "power"] (defScope s_proth_paper) := ⟨rfl, rfl, rfl, by decide +kernel, rfl, by decide +kernel, by decide +kernel⟩
theorem der_proth_paper {P : Program} {w : World} {K : PySem.W.Frag} {mg : Str → Option Value} {base : Heap} (T : HdL exL tfL fa fn K mg base) (c_need_two_shape : CalleeK P w K mg base "need_two_shape" 4 2 m_need_two_shape) (c_above_in : CalleeK P w K mg base "above_in" 1 2 m_above_in) (c_is_prime_above : CalleeK P w K mg base "is_prime_above" 3 1 m_is_prime_above) (c_paper_base : CalleeK P w K mg base "paper_base" 2 1 m_paper_base) {X : Cx} {B : Gr} {W : WX} (h : Bd X W P w K mg base 4 N_proth_paper (defScope s_proth_paper)) : QSs X B W (defBody s_proth_paper) f_proth_paper := by
  have v0 := h.vr (i := 0) (x := "front") (by rfl) (by decide +kernel)
  have v1 := h.vr (i := 1) (x := "power") (by rfl) (by decide +kernel)
  have v2 := h.vr (i := 2) (x := "great") (by rfl) (by decide +kernel)
  have l2 := h.lr (i := 2) (x := "great") (by rfl) (by decide +kernel)
  have g_above_in := h.gl (x := "above_in") (by decide +kernel)
  have g_is_prime_above := h.gl (x := "is_prime_above") (by decide +kernel)
  have g_need_two_shape := h.gl (x := "need_two_shape") (by decide +kernel)
  have g_paper_base := h.gl (x := "paper_base") (by decide +kernel)
  exact (ss_cons (s_exp (q_call (Wd.callee h.wd c_need_two_shape g_need_two_shape (by rfl)) (h.wd.room.mono (by omega)) h.cc.tk (a_cons (q_var v0) (a_cons (q_var v1) a_nil (by rfl)) (by rfl)) (len_cons (len_cons len_nil)).len (by rfl) (by rfl)) (by rfl))
 (ss_cons (s_set l2 (q_call (Wd.callee h.wd c_above_in g_above_in (by rfl)) (h.wd.room.mono (by omega)) h.cc.tk (a_cons (q_var v0) (a_cons (q_var v1) a_nil (by rfl)) (by rfl)) (len_cons (len_cons len_nil)).len (by rfl) (by rfl)) (by rfl))
 (ss_cons (s_if (t_cmp (opq_eq (h.wd).hu) (by with_unfolding_all rfl) (q_rd v2) (QE.qr q_int))
  (ss_one (s_ret q_int))
  ss_nil)
 (ss_one (s_ret (q_if (t_val (q_call (Wd.callee h.wd c_is_prime_above g_is_prime_above (by rfl)) (h.wd.room.mono (by omega)) h.cc.tk (a_cons (q_var v2) a_nil (by rfl)) (len_cons len_nil).len (by rfl) (by rfl)) (fun _ => rfl)) (q_call (Wd.callee h.wd c_paper_base g_paper_base (by rfl)) (h.wd.room.mono (by omega)) h.cc.tk (a_cons (q_var v2) a_nil (by rfl)) (len_cons len_nil).len (by rfl) (by rfl)) q_non))))))

theorem sc_is_proth_paper : FnScope N_is_proth_paper ["front", "power", "value"] (defScope s_is_proth_paper) := ⟨rfl, rfl, rfl, by decide +kernel, rfl, by decide +kernel, by decide +kernel⟩
theorem der_is_proth_paper {P : Program} {w : World} {K : PySem.W.Frag} {mg : Str → Option Value} {base : Heap} (T : HdL exL tfL fa fn K mg base) (c_need_two_shape : CalleeK P w K mg base "need_two_shape" 4 2 m_need_two_shape) (c_above_in : CalleeK P w K mg base "above_in" 1 2 m_above_in) (c_is_base_to : CalleeK P w K mg base "is_base_to" 2 2 m_is_base_to) (c_half_in : CalleeK P w K mg base "half_in" 2 2 m_half_in) {X : Cx} {B : Gr} {W : WX} (h : Bd X W P w K mg base 4 N_is_proth_paper (defScope s_is_proth_paper)) : QSs X B W (defBody s_is_proth_paper) f_is_proth_paper := by
  have v0 := h.vr (i := 0) (x := "front") (by rfl) (by decide +kernel)
  have v1 := h.vr (i := 1) (x := "power") (by rfl) (by decide +kernel)
  have v2 := h.vr (i := 2) (x := "value") (by rfl) (by decide +kernel)
  have v3 := h.vr (i := 3) (x := "great") (by rfl) (by decide +kernel)
  have l3 := h.lr (i := 3) (x := "great") (by rfl) (by decide +kernel)
  have g_above_in := h.gl (x := "above_in") (by decide +kernel)
  have g_half_in := h.gl (x := "half_in") (by decide +kernel)
  have g_is_base_to := h.gl (x := "is_base_to") (by decide +kernel)
  have g_need_two_shape := h.gl (x := "need_two_shape") (by decide +kernel)
  exact (ss_cons (s_exp (q_call (Wd.callee h.wd c_need_two_shape g_need_two_shape (by rfl)) (h.wd.room.mono (by omega)) h.cc.tk (a_cons (q_var v0) (a_cons (q_var v1) a_nil (by rfl)) (by rfl)) (len_cons (len_cons len_nil)).len (by rfl) (by rfl)) (by rfl))
 (ss_cons (s_set l3 (q_call (Wd.callee h.wd c_above_in g_above_in (by rfl)) (h.wd.room.mono (by omega)) h.cc.tk (a_cons (q_var v0) (a_cons (q_var v1) a_nil (by rfl)) (by rfl)) (len_cons (len_cons len_nil)).len (by rfl) (by rfl)) (by rfl))
 (ss_one (s_ret (q_and (q_call (Wd.callee h.wd c_is_base_to g_is_base_to (by rfl)) (h.wd.room.mono (by omega)) h.cc.tk (a_cons (q_var v2) (a_cons (q_var v3) a_nil (by rfl)) (by rfl)) (len_cons (len_cons len_nil)).len (by rfl) (by rfl)) (q_one (q_cmp (opq_eq (h.wd).hu) (by with_unfolding_all rfl) (QE.qr (q_call (Wd.callee h.wd c_half_in g_half_in (by rfl)) (h.wd.room.mono (by omega)) h.cc.tk (a_cons (q_var v2) (a_cons (q_var v3) a_nil (by rfl)) (by rfl)) (len_cons (len_cons len_nil)).len (by rfl) (by rfl))) (QE.qr (q_op opq_sub (q_rd v3) (QE.qr q_int))))))))))

theorem sc_false_paper : FnScope N_false_paper ["front", "power"] (defScope s_false_paper) := ⟨rfl, rfl, rfl, by decide +kernel, rfl, by decide +kernel, by decide +kernel⟩
theorem der_false_paper {P : Program} {w : World} {K : PySem.W.Frag} {mg : Str → Option Value} {base : Heap} (T : HdL exL tfL fa fn K mg base) (c_need_two_shape : CalleeK P w K mg base "need_two_shape" 4 2 m_need_two_shape) (c_above_in : CalleeK P w K mg base "above_in" 1 2 m_above_in) (c_is_prime_above : CalleeK P w K mg base "is_prime_above" 3 1 m_is_prime_above) (c_is_false_in : CalleeK P w K mg base "is_false_in" 3 2 m_is_false_in) {X : Cx} {B : Gr} {W : WX} (h : Bd X W P w K mg base 4 N_false_paper (defScope s_false_paper)) : QSs X B W (defBody s_false_paper) f_false_paper := by
  have v0 := h.vr (i := 0) (x := "front") (by rfl) (by decide +kernel)
  have v1 := h.vr (i := 1) (x := "power") (by rfl) (by decide +kernel)
  have v2 := h.vr (i := 2) (x := "great") (by rfl) (by decide +kernel)
  have v3 := h.vr (i := 3) (x := "base") (by rfl) (by decide +kernel)
  have l3 := h.lr (i := 3) (x := "base") (by rfl) (by decide +kernel)
  have ll2 := h.ll (i := 2) (x := "great") (by rfl) (by decide +kernel)
  have ll3 := h.ll (i := 3) (x := "base") (by rfl) (by decide +kernel)
  have g_above_in := h.gl (x := "above_in") (by decide +kernel)
  have g_is_false_in := h.gl (x := "is_false_in") (by decide +kernel)
  have g_is_prime_above := h.gl (x := "is_prime_above") (by decide +kernel)
  have g_need_two_shape := h.gl (x := "need_two_shape") (by decide +kernel)
  exact (ss_cons (s_exp (q_call (Wd.callee h.wd c_need_two_shape g_need_two_shape (by rfl)) (h.wd.room.mono (by omega)) h.cc.tk (a_cons (q_var v0) (a_cons (q_var v1) a_nil (by rfl)) (by rfl)) (len_cons (len_cons len_nil)).len (by rfl) (by rfl)) (by rfl))
 (ss_cons (s_par2 h.cc ll2 ll3 (by decide) (a_cons (q_call (Wd.callee h.wd c_above_in g_above_in (by rfl)) (h.wd.room.mono (by omega)) h.cc.tk (a_cons (q_var v0) (a_cons (q_var v1) a_nil (by rfl)) (by rfl)) (len_cons (len_cons len_nil)).len (by rfl) (by rfl)) (a_cons q_int a_nil (by rfl)) (by rfl)) (sw2 h.cc.kd ll2.loc ll3.loc (by decide +kernel) (by rfl) (by rfl) (by rfl) (by rfl)) (by rfl))
 (ss_cons (s_if (t_val (q_call (Wd.callee h.wd c_is_prime_above g_is_prime_above (by rfl)) (h.wd.room.mono (by omega)) h.cc.tk (a_cons (q_var v2) a_nil (by rfl)) (len_cons len_nil).len (by rfl) (by rfl)) (fun _ => rfl))
  (ss_one (s_ret q_non))
  ss_nil)
 (ss_cons (s_while h.cc (t_not (t_val (q_call (Wd.callee h.wd c_is_false_in g_is_false_in (by rfl)) (h.wd.room.mono (by omega)) h.cc.tk (a_cons (q_var v3) (a_cons (q_var v2) a_nil (by rfl)) (by rfl)) (len_cons (len_cons len_nil)).len (by rfl) (by rfl)) (fun _ => rfl)))
  (ss_one (s_set l3 (q_op opq_add (q_rd v3) (QE.qr q_int)) (by rfl))))
 (ss_one (s_ret (q_var v3)))))))

theorem sc_is_false_paper : FnScope N_is_false_paper ["front", "power", "value"] (defScope s_is_false_paper) := ⟨rfl, rfl, rfl, by decide +kernel, rfl, by decide +kernel, by decide +kernel⟩
theorem der_is_false_paper {P : Program} {w : World} {K : PySem.W.Frag} {mg : Str → Option Value} {base : Heap} (T : HdL exL tfL fa fn K mg base) (c_need_two_shape : CalleeK P w K mg base "need_two_shape" 4 2 m_need_two_shape) (c_above_in : CalleeK P w K mg base "above_in" 1 2 m_above_in) (c_is_base_to : CalleeK P w K mg base "is_base_to" 2 2 m_is_base_to) (c_is_false_in : CalleeK P w K mg base "is_false_in" 3 2 m_is_false_in) {X : Cx} {B : Gr} {W : WX} (h : Bd X W P w K mg base 4 N_is_false_paper (defScope s_is_false_paper)) : QSs X B W (defBody s_is_false_paper) f_is_false_paper := by
  have v0 := h.vr (i := 0) (x := "front") (by rfl) (by decide +kernel)
  have v1 := h.vr (i := 1) (x := "power") (by rfl) (by decide +kernel)
  have v2 := h.vr (i := 2) (x := "value") (by rfl) (by decide +kernel)
  have v3 := h.vr (i := 3) (x := "great") (by rfl) (by decide +kernel)
  have l3 := h.lr (i := 3) (x := "great") (by rfl) (by decide +kernel)
  have g_above_in := h.gl (x := "above_in") (by decide +kernel)
  have g_is_base_to := h.gl (x := "is_base_to") (by decide +kernel)
  have g_is_false_in := h.gl (x := "is_false_in") (by decide +kernel)
  have g_need_two_shape := h.gl (x := "need_two_shape") (by decide +kernel)
  exact (ss_cons (s_exp (q_call (Wd.callee h.wd c_need_two_shape g_need_two_shape (by rfl)) (h.wd.room.mono (by omega)) h.cc.tk (a_cons (q_var v0) (a_cons (q_var v1) a_nil (by rfl)) (by rfl)) (len_cons (len_cons len_nil)).len (by rfl) (by rfl)) (by rfl))
 (ss_cons (s_set l3 (q_call (Wd.callee h.wd c_above_in g_above_in (by rfl)) (h.wd.room.mono (by omega)) h.cc.tk (a_cons (q_var v0) (a_cons (q_var v1) a_nil (by rfl)) (by rfl)) (len_cons (len_cons len_nil)).len (by rfl) (by rfl)) (by rfl))
 (ss_one (s_ret (q_and (q_call (Wd.callee h.wd c_is_base_to g_is_base_to (by rfl)) (h.wd.room.mono (by omega)) h.cc.tk (a_cons (q_var v2) (a_cons (q_var v3) a_nil (by rfl)) (by rfl)) (len_cons (len_cons len_nil)).len (by rfl) (by rfl)) (q_one (q_call (Wd.callee h.wd c_is_false_in g_is_false_in (by rfl)) (h.wd.room.mono (by omega)) h.cc.tk (a_cons (q_var v2) (a_cons (q_var v3) a_nil (by rfl)) (by rfl)) (len_cons (len_cons len_nil)).len (by rfl) (by rfl))))))))

theorem sc_prime_fronts : FnScope N_prime_fronts ["power", "most"] (defScope s_prime_fronts) := ⟨rfl, rfl, rfl, by decide +kernel, rfl, by decide +kernel, by decide +kernel⟩
theorem der_prime_fronts {P : Program} {w : World} {K : PySem.W.Frag} {mg : Str → Option Value} {base : Heap} (T : HdL exL tfL fa fn K mg base) (c_need_whole : CalleeK P w K mg base "need_whole" 3 3 m_need_whole) (c_fits_two_shape : CalleeK P w K mg base "fits_two_shape" 3 2 m_fits_two_shape) (c_above_in : CalleeK P w K mg base "above_in" 1 2 m_above_in) (c_is_prime_above : CalleeK P w K mg base "is_prime_above" 3 1 m_is_prime_above) {X : Cx} {B : Gr} {W : WX} (h : Bd X W P w K mg base 3 N_prime_fronts (defScope s_prime_fronts)) : QSs X B W (defBody s_prime_fronts) f_prime_fronts := by
  have v0 := h.vr (i := 0) (x := "power") (by rfl) (by decide +kernel)
  have v1 := h.vr (i := 1) (x := "most") (by rfl) (by decide +kernel)
  have v2 := h.vr (i := 2) (x := "able") (by rfl) (by decide +kernel)
  have ll2 := h.ll (i := 2) (x := "able") (by rfl) (by decide +kernel)
  have n0 : X.N[0]? = some ("power" : Str) := by rw [h.hN]; rfl
  have k0 : X.env.scope.names.lookup ("power" : Str) = some .cell := by rw [h.hsc]; decide +kernel
  have n3 : X.N[3]? = some ("front" : Str) := by rw [h.hN]; rfl
  have g_LISTED_FRONT := h.gl (x := "LISTED_FRONT") (by decide +kernel)
  have g_LISTED_POWER := h.gl (x := "LISTED_POWER") (by decide +kernel)
  have g_need_whole := h.gl (x := "need_whole") (by decide +kernel)
  have g_range := h.gl (x := "range") (by decide +kernel)
  have g_tuple := h.gl (x := "tuple") (by decide +kernel)
  exact (ss_cons (s_exp (q_call (Wd.callee h.wd c_need_whole g_need_whole (by rfl)) (h.wd.room.mono (by omega)) h.cc.tk (a_cons (q_var v0) (a_cons q_int (a_cons (q_gint g_LISTED_POWER (h.wd.gint (T.int 71 (by rfl))) (by rfl)) a_nil (by rfl)) (by rfl)) (by rfl)) (len_cons (len_cons (len_cons len_nil))).len (by rfl) (by rfl)) (by rfl))
 (ss_cons (s_exp (q_call (Wd.callee h.wd c_need_whole g_need_whole (by rfl)) (h.wd.room.mono (by omega)) h.cc.tk (a_cons (q_var v1) (a_cons q_int (a_cons (q_gint g_LISTED_FRONT (h.wd.gint (T.int 72 (by rfl))) (by rfl)) a_nil (by rfl)) (by rfl)) (by rfl)) (len_cons (len_cons (len_cons len_nil))).len (by rfl) (by rfl)) (by rfl))
 (ss_cons (s_setLcT h.cc ll2 (by rfl) (by decide +kernel) (i_r3 (h.wd.blt (T.free 84 (by rfl)) g_range) (a_cons q_int (a_cons (q_op opq_add (q_rd v1) (QE.qr q_int)) (a_cons q_int a_nil (by rfl)) (by rfl)) (by rfl)) (by rfl) (by rfl)) (own := [("front", 3)]) (by rw [h.hN, h.hsc]; decide +kernel) (fun s1 H1 C1 cl1 fp1 => (g_name (lr_blk h.cc.nd n3 (by decide +kernel)))) (fun s1 H1 C1 cl1 fp1 => (t_val (q_call (Wd.callee (Wd.blk h.wd) c_fits_two_shape (gl_blk (by decide +kernel)) (by rfl)) ((Wd.blk h.wd).room.mono (by omega)) takesN0 (a_cons (q_var (vr_blk n3 (by decide +kernel) (by rfl) (by rfl))) (a_cons (q_var (vr_blk n0 (by decide +kernel) (by rfl) (by rfl))) a_nil (by rfl)) (by rfl)) (len_cons (len_cons len_nil)).len (by rfl) (by rfl)) (fun _ => rfl))) (fun s1 H1 C1 cl1 fp1 => (q_var (vr_blk n3 (by decide +kernel) (by rfl) (by rfl)))) (by decide) (fun _ => rfl))
 (ss_one (s_ret (q_ct cq_tuple (h.wd.blt (T.free 86 (by rfl)) g_tuple) boot_tuple (by decide) (by rfl) (ar_cons (QE.qr (QF.qe (f_lcT h.cc (i_seq (q_var v2)) (own := [("front", 3)]) (by rw [h.hN, h.hsc]; decide +kernel) (fun s2 H2 C2 cl2 fp2 => (g_name (lr_blk h.cc.nd n3 (by decide +kernel)))) (fun s2 H2 C2 cl2 fp2 => (t_val (q_call (Wd.callee (Wd.blk h.wd) c_is_prime_above (gl_blk (by decide +kernel)) (by rfl)) ((Wd.blk h.wd).room.mono (by omega)) takesN0 (a_cons (q_call (Wd.callee (Wd.blk h.wd) c_above_in (gl_blk (by decide +kernel)) (by rfl)) ((Wd.blk h.wd).room.mono (by omega)) takesN0 (a_cons (q_var (vr_blk n3 (by decide +kernel) (by rfl) (by rfl))) (a_cons (q_var (vr_blk n0 (by decide +kernel) (by rfl) (by rfl))) a_nil (by rfl)) (by rfl)) (len_cons (len_cons len_nil)).len (by rfl) (by rfl)) a_nil (by rfl)) (len_cons len_nil).len (by rfl) (by rfl)) (fun _ => rfl))) (fun s2 H2 C2 cl2 fp2 => (q_var (vr_blk n3 (by decide +kernel) (by rfl) (by rfl)))) (by decide) (fun _ => rfl)))) ar_nil (by rfl)) (by rfl) (by rfl)))))))

theorem sc_fermat_in : FnScope N_fermat_in ["order"] (defScope s_fermat_in) := ⟨rfl, rfl, rfl, by decide +kernel, rfl, by decide +kernel, by decide +kernel⟩
theorem der_fermat_in {P : Program} {w : World} {K : PySem.W.Frag} {mg : Str → Option Value} {base : Heap} (T : HdL exL tfL fa fn K mg base) (c_above_in : CalleeK P w K mg base "above_in" 1 2 m_above_in) {X : Cx} {B : Gr} {W : WX} (h : Bd X W P w K mg base 1 N_fermat_in (defScope s_fermat_in)) : QSs X B W (defBody s_fermat_in) f_fermat_in := by
  have v0 := h.vr (i := 0) (x := "order") (by rfl) (by decide +kernel)
  have g_above_in := h.gl (x := "above_in") (by decide +kernel)
  exact (ss_one (s_ret (q_call (Wd.callee h.wd c_above_in g_above_in (by rfl)) (h.wd.room.mono (by omega)) h.cc.tk (a_cons q_int (a_cons (q_op opq_shl (QE.qr q_int) (q_rd v0)) a_nil (by rfl)) (by rfl)) (len_cons (len_cons len_nil)).len (by rfl) (by rfl))))

theorem sc_need_order : FnScope N_need_order ["value", "least"] (defScope s_need_order) := ⟨rfl, rfl, rfl, by decide +kernel, rfl, by decide +kernel, by decide +kernel⟩
theorem der_need_order {P : Program} {w : World} {K : PySem.W.Frag} {mg : Str → Option Value} {base : Heap} (T : HdL exL tfL fa fn K mg base) (c_is_whole : CalleeK P w K mg base "is_whole" 2 3 m_is_whole) {X : Cx} {B : Gr} {W : WX} (h : Bd X W P w K mg base 2 N_need_order (defScope s_need_order)) : QSs X B W (defBody s_need_order) f_need_order := by
  have v0 := h.vr (i := 0) (x := "value") (by rfl) (by decide +kernel)
  have v1 := h.vr (i := 1) (x := "least") (by rfl) (by decide +kernel)
  have g_InvalidNumber := h.gl (x := "InvalidNumber") (by decide +kernel)
  have g_ORDERS := h.gl (x := "ORDERS") (by decide +kernel)
  have g_is_whole := h.gl (x := "is_whole") (by decide +kernel)
  exact (ss_one (s_if (t_not (t_val (q_call (Wd.callee h.wd c_is_whole g_is_whole (by rfl)) (h.wd.room.mono (by omega)) h.cc.tk (a_cons (q_var v0) (a_cons (q_var v1) (a_cons (q_gint g_ORDERS (h.wd.gint (T.int 73 (by rfl))) (by rfl)) a_nil (by rfl)) (by rfl)) (by rfl)) (len_cons (len_cons (len_cons len_nil))).len (by rfl) (by rfl)) (fun _ => rfl)))
  (ss_one (s_raise (h.wd.exc g_InvalidNumber (by rfl) (T.glo 59 (by rfl)) (T.exc 64 (by rfl))) h.cc))
  ss_nil))

theorem sc_least_divisor_by : FnScope N_least_divisor_by ["number", "begin", "step", "most"] (defScope s_least_divisor_by) := ⟨rfl, rfl, rfl, by decide +kernel, rfl, by decide +kernel, by decide +kernel⟩
theorem der_least_divisor_by {P : Program} {w : World} {K : PySem.W.Frag} {mg : Str → Option Value} {base : Heap} (T : HdL exL tfL fa fn K mg base) {X : Cx} {B : Gr} {W : WX} (h : Bd X W P w K mg base 0 N_least_divisor_by (defScope s_least_divisor_by)) : QSs X B W (defBody s_least_divisor_by) f_least_divisor_by := by
  have v0 := h.vr (i := 0) (x := "number") (by rfl) (by decide +kernel)
  have v1 := h.vr (i := 1) (x := "begin") (by rfl) (by decide +kernel)
  have v2 := h.vr (i := 2) (x := "step") (by rfl) (by decide +kernel)
  have v3 := h.vr (i := 3) (x := "most") (by rfl) (by decide +kernel)
  have v4 := h.vr (i := 4) (x := "part") (by rfl) (by decide +kernel)
  have l4 := h.lr (i := 4) (x := "part") (by rfl) (by decide +kernel)
  have g_min := h.gl (x := "min") (by decide +kernel)
  have g_range := h.gl (x := "range") (by decide +kernel)
  exact (ss_cons (s_for h.cc (i_r3 (h.wd.blt (T.free 84 (by rfl)) g_range) (a_cons (q_var v1) (a_cons (q_op opq_add (QE.qr (q_cb (cq_min2 h.cc.calm) (h.wd.blt (T.free 83 (by rfl)) g_min) boot_min (by decide) (by rfl) (ar_cons (q_rd v3) (ar_cons (QE.qr (q_op opq_sub (q_rd v0) (QE.qr q_int))) ar_nil (by rfl)) (by rfl)) (by rfl) (by rfl))) (QE.qr q_int)) (a_cons (q_var v2) a_nil (by rfl)) (by rfl)) (by rfl)) (by rfl) (by rfl)) (g_name l4)
  (ss_one (s_if (t_cmp (opq_eq (h.wd).hu) (by with_unfolding_all rfl) (QE.qr (q_op opq_mod (q_rd v0) (q_rd v4))) (QE.qr q_int))
  (ss_one (s_ret (q_var v4)))
  ss_nil)) (fun _ => rfl))
 (ss_one (s_ret q_non)))

theorem sc_fermat_number : FnScope N_fermat_number ["order"] (defScope s_fermat_number) := ⟨rfl, rfl, rfl, by decide +kernel, rfl, by decide +kernel, by decide +kernel⟩
theorem der_fermat_number {P : Program} {w : World} {K : PySem.W.Frag} {mg : Str → Option Value} {base : Heap} (T : HdL exL tfL fa fn K mg base) (c_need_order : CalleeK P w K mg base "need_order" 3 2 m_need_order) (c_fermat_in : CalleeK P w K mg base "fermat_in" 2 1 m_fermat_in) {X : Cx} {B : Gr} {W : WX} (h : Bd X W P w K mg base 3 N_fermat_number (defScope s_fermat_number)) : QSs X B W (defBody s_fermat_number) f_fermat_number := by
  have v0 := h.vr (i := 0) (x := "order") (by rfl) (by decide +kernel)
  have g_fermat_in := h.gl (x := "fermat_in") (by decide +kernel)
  have g_need_order := h.gl (x := "need_order") (by decide +kernel)
  exact (ss_cons (s_exp (q_call (Wd.callee h.wd c_need_order g_need_order (by rfl)) (h.wd.room.mono (by omega)) h.cc.tk (a_cons (q_var v0) (a_cons q_int a_nil (by rfl)) (by rfl)) (len_cons (len_cons len_nil)).len (by rfl) (by rfl)) (by rfl))
 (ss_one (s_ret (q_call (Wd.callee h.wd c_fermat_in g_fermat_in (by rfl)) (h.wd.room.mono (by omega)) h.cc.tk (a_cons (q_var v0) a_nil (by rfl)) (len_cons len_nil).len (by rfl) (by rfl)))))

theorem sc_pepin_rest : FnScope N_pepin_rest ["order"] (defScope s_pepin_rest) := ⟨rfl, rfl, rfl, by decide +kernel, rfl, by decide +kernel, by decide +kernel⟩
theorem der_pepin_rest {P : Program} {w : World} {K : PySem.W.Frag} {mg : Str → Option Value} {base : Heap} (T : HdL exL tfL fa fn K mg base) (c_need_order : CalleeK P w K mg base "need_order" 3 2 m_need_order) (c_fermat_in : CalleeK P w K mg base "fermat_in" 2 1 m_fermat_in) (c_half_in : CalleeK P w K mg base "half_in" 2 2 m_half_in) {X : Cx} {B : Gr} {W : WX} (h : Bd X W P w K mg base 3 N_pepin_rest (defScope s_pepin_rest)) : QSs X B W (defBody s_pepin_rest) f_pepin_rest := by
  have v0 := h.vr (i := 0) (x := "order") (by rfl) (by decide +kernel)
  have g_fermat_in := h.gl (x := "fermat_in") (by decide +kernel)
  have g_half_in := h.gl (x := "half_in") (by decide +kernel)
  have g_need_order := h.gl (x := "need_order") (by decide +kernel)
  exact (ss_cons (s_exp (q_call (Wd.callee h.wd c_need_order g_need_order (by rfl)) (h.wd.room.mono (by omega)) h.cc.tk (a_cons (q_var v0) (a_cons q_int a_nil (by rfl)) (by rfl)) (len_cons (len_cons len_nil)).len (by rfl) (by rfl)) (by rfl))
 (ss_one (s_ret (q_call (Wd.callee h.wd c_half_in g_half_in (by rfl)) (h.wd.room.mono (by omega)) h.cc.tk (a_cons q_int (a_cons (q_call (Wd.callee h.wd c_fermat_in g_fermat_in (by rfl)) (h.wd.room.mono (by omega)) h.cc.tk (a_cons (q_var v0) a_nil (by rfl)) (len_cons len_nil).len (by rfl) (by rfl)) a_nil (by rfl)) (by rfl)) (len_cons (len_cons len_nil)).len (by rfl) (by rfl)))))

theorem sc_is_fermat_prime : FnScope N_is_fermat_prime ["order"] (defScope s_is_fermat_prime) := ⟨rfl, rfl, rfl, by decide +kernel, rfl, by decide +kernel, by decide +kernel⟩
theorem der_is_fermat_prime {P : Program} {w : World} {K : PySem.W.Frag} {mg : Str → Option Value} {base : Heap} (T : HdL exL tfL fa fn K mg base) (c_need_order : CalleeK P w K mg base "need_order" 3 2 m_need_order) (c_fermat_in : CalleeK P w K mg base "fermat_in" 2 1 m_fermat_in) (c_half_in : CalleeK P w K mg base "half_in" 2 2 m_half_in) {X : Cx} {B : Gr} {W : WX} (h : Bd X W P w K mg base 3 N_is_fermat_prime (defScope s_is_fermat_prime)) : QSs X B W (defBody s_is_fermat_prime) f_is_fermat_prime := by
  have v0 := h.vr (i := 0) (x := "order") (by rfl) (by decide +kernel)
  have g_fermat_in := h.gl (x := "fermat_in") (by decide +kernel)
  have g_half_in := h.gl (x := "half_in") (by decide +kernel)
  have g_need_order := h.gl (x := "need_order") (by decide +kernel)
  exact (ss_cons (s_exp (q_call (Wd.callee h.wd c_need_order g_need_order (by rfl)) (h.wd.room.mono (by omega)) h.cc.tk (a_cons (q_var v0) (a_cons q_int a_nil (by rfl)) (by rfl)) (len_cons (len_cons len_nil)).len (by rfl) (by rfl)) (by rfl))
 (ss_one (s_ret (q_or (q_cmp (opq_eq (h.wd).hu) (by with_unfolding_all rfl) (q_rd v0) (QE.qr q_int)) (q_one (q_cmp (opq_eq (h.wd).hu) (by with_unfolding_all rfl) (QE.qr (q_call (Wd.callee h.wd c_half_in g_half_in (by rfl)) (h.wd.room.mono (by omega)) h.cc.tk (a_cons q_int (a_cons (q_call (Wd.callee h.wd c_fermat_in g_fermat_in (by rfl)) (h.wd.room.mono (by omega)) h.cc.tk (a_cons (q_var v0) a_nil (by rfl)) (len_cons len_nil).len (by rfl) (by rfl)) a_nil (by rfl)) (by rfl)) (len_cons (len_cons len_nil)).len (by rfl) (by rfl))) (QE.qr (q_op opq_sub (QE.qr (q_call (Wd.callee h.wd c_fermat_in g_fermat_in (by rfl)) (h.wd.room.mono (by omega)) h.cc.tk (a_cons (q_var v0) a_nil (by rfl)) (len_cons len_nil).len (by rfl) (by rfl))) (QE.qr q_int)))))))))

theorem sc_fermat_divisor : FnScope N_fermat_divisor ["order", "most"] (defScope s_fermat_divisor) := ⟨rfl, rfl, rfl, by decide +kernel, rfl, by decide +kernel, by decide +kernel⟩
theorem der_fermat_divisor {P : Program} {w : World} {K : PySem.W.Frag} {mg : Str → Option Value} {base : Heap} (T : HdL exL tfL fa fn K mg base) (c_need_order : CalleeK P w K mg base "need_order" 3 2 m_need_order) (c_need_whole : CalleeK P w K mg base "need_whole" 3 3 m_need_whole) (c_fermat_in : CalleeK P w K mg base "fermat_in" 2 1 m_fermat_in) (c_least_divisor_by : CalleeK P w K mg base "least_divisor_by" 1 4 m_least_divisor_by) {X : Cx} {B : Gr} {W : WX} (h : Bd X W P w K mg base 3 N_fermat_divisor (defScope s_fermat_divisor)) : QSs X B W (defBody s_fermat_divisor) f_fermat_divisor := by
  have v0 := h.vr (i := 0) (x := "order") (by rfl) (by decide +kernel)
  have v1 := h.vr (i := 1) (x := "most") (by rfl) (by decide +kernel)
  have v2 := h.vr (i := 2) (x := "step") (by rfl) (by decide +kernel)
  have l2 := h.lr (i := 2) (x := "step") (by rfl) (by decide +kernel)
  have g_MOST_SOUGHT := h.gl (x := "MOST_SOUGHT") (by decide +kernel)
  have g_fermat_in := h.gl (x := "fermat_in") (by decide +kernel)
  have g_least_divisor_by := h.gl (x := "least_divisor_by") (by decide +kernel)
  have g_need_order := h.gl (x := "need_order") (by decide +kernel)
  have g_need_whole := h.gl (x := "need_whole") (by decide +kernel)
  exact (ss_cons (s_exp (q_call (Wd.callee h.wd c_need_order g_need_order (by rfl)) (h.wd.room.mono (by omega)) h.cc.tk (a_cons (q_var v0) (a_cons q_int a_nil (by rfl)) (by rfl)) (len_cons (len_cons len_nil)).len (by rfl) (by rfl)) (by rfl))
 (ss_cons (s_exp (q_call (Wd.callee h.wd c_need_whole g_need_whole (by rfl)) (h.wd.room.mono (by omega)) h.cc.tk (a_cons (q_var v1) (a_cons q_int (a_cons (q_gint g_MOST_SOUGHT (h.wd.gint (T.int 74 (by rfl))) (by rfl)) a_nil (by rfl)) (by rfl)) (by rfl)) (len_cons (len_cons (len_cons len_nil))).len (by rfl) (by rfl)) (by rfl))
 (ss_cons (s_set l2 (q_op opq_shl (QE.qr q_int) (q_rd v0)) (by rfl))
 (ss_one (s_ret (q_call (Wd.callee h.wd c_least_divisor_by g_least_divisor_by (by rfl)) (h.wd.room.mono (by omega)) h.cc.tk (a_cons (q_call (Wd.callee h.wd c_fermat_in g_fermat_in (by rfl)) (h.wd.room.mono (by omega)) h.cc.tk (a_cons (q_var v0) a_nil (by rfl)) (len_cons len_nil).len (by rfl) (by rfl)) (a_cons (q_op opq_add (q_rd v2) (QE.qr q_int)) (a_cons (q_var v2) (a_cons (q_var v1) a_nil (by rfl)) (by rfl)) (by rfl)) (by rfl)) (len_cons (len_cons (len_cons (len_cons len_nil)))).len (by rfl) (by rfl)))))))

theorem sc_mersenne_in : FnScope N_mersenne_in ["prime"] (defScope s_mersenne_in) := ⟨rfl, rfl, rfl, by decide +kernel, rfl, by decide +kernel, by decide +kernel⟩
theorem der_mersenne_in {P : Program} {w : World} {K : PySem.W.Frag} {mg : Str → Option Value} {base : Heap} (T : HdL exL tfL fa fn K mg base) {X : Cx} {B : Gr} {W : WX} (h : Bd X W P w K mg base 0 N_mersenne_in (defScope s_mersenne_in)) : QSs X B W (defBody s_mersenne_in) f_mersenne_in := by
  have v0 := h.vr (i := 0) (x := "prime") (by rfl) (by decide +kernel)
  exact (ss_one (s_ret (q_op opq_sub (QE.qr (q_op opq_shl (QE.qr q_int) (q_rd v0))) (QE.qr q_int))))

theorem sc_chain_in : FnScope N_chain_in ["prime"] (defScope s_chain_in) := ⟨rfl, rfl, rfl, by decide +kernel, rfl, by decide +kernel, by decide +kernel⟩
theorem der_chain_in {P : Program} {w : World} {K : PySem.W.Frag} {mg : Str → Option Value} {base : Heap} (T : HdL exL tfL fa fn K mg base) (c_mersenne_in : CalleeK P w K mg base "mersenne_in" 1 1 m_mersenne_in) {X : Cx} {B : Gr} {W : WX} (h : Bd X W P w K mg base 1 N_chain_in (defScope s_chain_in)) : QSs X B W (defBody s_chain_in) f_chain_in := by
  have v0 := h.vr (i := 0) (x := "prime") (by rfl) (by decide +kernel)
  have v1 := h.vr (i := 1) (x := "great") (by rfl) (by decide +kernel)
  have v2 := h.vr (i := 2) (x := "found") (by rfl) (by decide +kernel)
  have l3 := h.lr (i := 3) (x := "turn") (by rfl) (by decide +kernel)
  have ll1 := h.ll (i := 1) (x := "great") (by rfl) (by decide +kernel)
  have ll2 := h.ll (i := 2) (x := "found") (by rfl) (by decide +kernel)
  have g_mersenne_in := h.gl (x := "mersenne_in") (by decide +kernel)
  have g_range := h.gl (x := "range") (by decide +kernel)
  exact (ss_cons (s_pm2 h.cc ll1 ll2 (by decide) (m_fz (q_call (Wd.callee h.wd c_mersenne_in g_mersenne_in (by rfl)) (h.wd.room.mono (by omega)) h.cc.tk (a_cons (q_var v0) a_nil (by rfl)) (len_cons len_nil).len (by rfl) (by rfl)) (m_own (f_lst (a_cons q_int a_nil (by rfl))) m_nil (by rfl)) (by rfl)) (sw2 h.cc.kd ll1.loc ll2.loc (by decide +kernel) (by rfl) (by rfl) (by rfl) (by rfl)) (by rfl))
 (ss_cons (s_for h.cc (i_r1 (h.wd.blt (T.free 84 (by rfl)) g_range) (a_cons (q_op opq_sub (q_rd v0) (QE.qr q_int)) a_nil (by rfl)) (by rfl)) (g_name l3)
  (ss_one (s_app v2 (q_op opq_mod (QE.qr (q_op opq_sub (QE.qr (q_op opq_mul (QE.qr (q_ix (fun _ _ => rfl) (q_rd v2) (QE.qr (q_neg q_int)))) (QE.qr (q_ix (fun _ _ => rfl) (q_rd v2) (QE.qr (q_neg q_int)))))) (QE.qr q_int))) (q_rd v1)) (by rfl) (by rfl) (by rfl) (by rfl) (by rfl))) (fun _ => rfl))
 (ss_frz (ss_one (s_ret (q_var v2))) 2)))

theorem sc_need_chained : FnScope N_need_chained ["value"] (defScope s_need_chained) := ⟨rfl, rfl, rfl, by decide +kernel, rfl, by decide +kernel, by decide +kernel⟩
theorem der_need_chained {P : Program} {w : World} {K : PySem.W.Frag} {mg : Str → Option Value} {base : Heap} (T : HdL exL tfL fa fn K mg base) (c_is_whole : CalleeK P w K mg base "is_whole" 2 3 m_is_whole) (c_is_prime_in : CalleeK P w K mg base "is_prime_in" 2 1 m_is_prime_in) {X : Cx} {B : Gr} {W : WX} (h : Bd X W P w K mg base 2 N_need_chained (defScope s_need_chained)) : QSs X B W (defBody s_need_chained) f_need_chained := by
  have v0 := h.vr (i := 0) (x := "value") (by rfl) (by decide +kernel)
  have g_InvalidPrime := h.gl (x := "InvalidPrime") (by decide +kernel)
  have g_LARGEST := h.gl (x := "LARGEST") (by decide +kernel)
  have g_is_prime_in := h.gl (x := "is_prime_in") (by decide +kernel)
  have g_is_whole := h.gl (x := "is_whole") (by decide +kernel)
  exact (ss_one (s_if (t_w (w_or (t_not (t_val (q_call (Wd.callee h.wd c_is_whole g_is_whole (by rfl)) (h.wd.room.mono (by omega)) h.cc.tk (a_cons (q_var v0) (a_cons q_int (a_cons (q_gint g_LARGEST (h.wd.gint (T.int 75 (by rfl))) (by rfl)) a_nil (by rfl)) (by rfl)) (by rfl)) (len_cons (len_cons (len_cons len_nil))).len (by rfl) (by rfl)) (fun _ => rfl))) (w_or1 (t_not (t_val (q_call (Wd.callee h.wd c_is_prime_in g_is_prime_in (by rfl)) (h.wd.room.mono (by omega)) h.cc.tk (a_cons (q_var v0) a_nil (by rfl)) (len_cons len_nil).len (by rfl) (by rfl)) (fun _ => rfl))))))
  (ss_one (s_raise (h.wd.exc g_InvalidPrime (by rfl) (T.glo 60 (by rfl)) (T.exc 65 (by rfl))) h.cc))
  ss_nil))

theorem sc_mersenne_number : FnScope N_mersenne_number ["prime"] (defScope s_mersenne_number) := ⟨rfl, rfl, rfl, by decide +kernel, rfl, by decide +kernel, by decide +kernel⟩
theorem der_mersenne_number {P : Program} {w : World} {K : PySem.W.Frag} {mg : Str → Option Value} {base : Heap} (T : HdL exL tfL fa fn K mg base) (c_need_chained : CalleeK P w K mg base "need_chained" 3 1 m_need_chained) (c_mersenne_in : CalleeK P w K mg base "mersenne_in" 1 1 m_mersenne_in) {X : Cx} {B : Gr} {W : WX} (h : Bd X W P w K mg base 3 N_mersenne_number (defScope s_mersenne_number)) : QSs X B W (defBody s_mersenne_number) f_mersenne_number := by
  have v0 := h.vr (i := 0) (x := "prime") (by rfl) (by decide +kernel)
  have g_mersenne_in := h.gl (x := "mersenne_in") (by decide +kernel)
  have g_need_chained := h.gl (x := "need_chained") (by decide +kernel)
  exact (ss_cons (s_exp (q_call (Wd.callee h.wd c_need_chained g_need_chained (by rfl)) (h.wd.room.mono (by omega)) h.cc.tk (a_cons (q_var v0) a_nil (by rfl)) (len_cons len_nil).len (by rfl) (by rfl)) (by rfl))
 (ss_one (s_ret (q_call (Wd.callee h.wd c_mersenne_in g_mersenne_in (by rfl)) (h.wd.room.mono (by omega)) h.cc.tk (a_cons (q_var v0) a_nil (by rfl)) (len_cons len_nil).len (by rfl) (by rfl)))))

theorem sc_lucas_chain : FnScope N_lucas_chain ["prime"] (defScope s_lucas_chain) := ⟨rfl, rfl, rfl, by decide +kernel, rfl, by decide +kernel, by decide +kernel⟩
theorem der_lucas_chain {P : Program} {w : World} {K : PySem.W.Frag} {mg : Str → Option Value} {base : Heap} (T : HdL exL tfL fa fn K mg base) (c_need_chained : CalleeK P w K mg base "need_chained" 3 1 m_need_chained) (c_chain_in : CalleeK P w K mg base "chain_in" 2 1 m_chain_in) {X : Cx} {B : Gr} {W : WX} (h : Bd X W P w K mg base 3 N_lucas_chain (defScope s_lucas_chain)) : QSs X B W (defBody s_lucas_chain) f_lucas_chain := by
  have v0 := h.vr (i := 0) (x := "prime") (by rfl) (by decide +kernel)
  have g_chain_in := h.gl (x := "chain_in") (by decide +kernel)
  have g_need_chained := h.gl (x := "need_chained") (by decide +kernel)
  have g_tuple := h.gl (x := "tuple") (by decide +kernel)
  exact (ss_cons (s_exp (q_call (Wd.callee h.wd c_need_chained g_need_chained (by rfl)) (h.wd.room.mono (by omega)) h.cc.tk (a_cons (q_var v0) a_nil (by rfl)) (len_cons len_nil).len (by rfl) (by rfl)) (by rfl))
 (ss_one (s_ret (q_ct cq_tuple (h.wd.blt (T.free 86 (by rfl)) g_tuple) boot_tuple (by decide) (by rfl) (ar_cons (QE.qr (q_call (Wd.callee h.wd c_chain_in g_chain_in (by rfl)) (h.wd.room.mono (by omega)) h.cc.tk (a_cons (q_var v0) a_nil (by rfl)) (len_cons len_nil).len (by rfl) (by rfl))) ar_nil (by rfl)) (by rfl) (by rfl)))))

theorem sc_is_mersenne_prime : FnScope N_is_mersenne_prime ["prime"] (defScope s_is_mersenne_prime) := ⟨rfl, rfl, rfl, by decide +kernel, rfl, by decide +kernel, by decide +kernel⟩
theorem der_is_mersenne_prime {P : Program} {w : World} {K : PySem.W.Frag} {mg : Str → Option Value} {base : Heap} (T : HdL exL tfL fa fn K mg base) (c_need_chained : CalleeK P w K mg base "need_chained" 3 1 m_need_chained) (c_chain_in : CalleeK P w K mg base "chain_in" 2 1 m_chain_in) {X : Cx} {B : Gr} {W : WX} (h : Bd X W P w K mg base 3 N_is_mersenne_prime (defScope s_is_mersenne_prime)) : QSs X B W (defBody s_is_mersenne_prime) f_is_mersenne_prime := by
  have v0 := h.vr (i := 0) (x := "prime") (by rfl) (by decide +kernel)
  have g_chain_in := h.gl (x := "chain_in") (by decide +kernel)
  have g_need_chained := h.gl (x := "need_chained") (by decide +kernel)
  exact (ss_cons (s_exp (q_call (Wd.callee h.wd c_need_chained g_need_chained (by rfl)) (h.wd.room.mono (by omega)) h.cc.tk (a_cons (q_var v0) a_nil (by rfl)) (len_cons len_nil).len (by rfl) (by rfl)) (by rfl))
 (ss_one (s_ret (q_cmp (opq_eq (h.wd).hu) (by with_unfolding_all rfl) (QE.qr (q_ix (fun _ _ => rfl) (QE.qr (q_call (Wd.callee h.wd c_chain_in g_chain_in (by rfl)) (h.wd.room.mono (by omega)) h.cc.tk (a_cons (q_var v0) a_nil (by rfl)) (len_cons len_nil).len (by rfl) (by rfl))) (QE.qr (q_neg q_int)))) (QE.qr q_int)))))

theorem sc_mersenne_primes_to : FnScope N_mersenne_primes_to ["most"] (defScope s_mersenne_primes_to) := ⟨rfl, rfl, rfl, by decide +kernel, rfl, by decide +kernel, by decide +kernel⟩
theorem der_mersenne_primes_to {P : Program} {w : World} {K : PySem.W.Frag} {mg : Str → Option Value} {base : Heap} (T : HdL exL tfL fa fn K mg base) (c_need_whole : CalleeK P w K mg base "need_whole" 3 3 m_need_whole) (c_is_prime_in : CalleeK P w K mg base "is_prime_in" 2 1 m_is_prime_in) (c_chain_in : CalleeK P w K mg base "chain_in" 2 1 m_chain_in) {X : Cx} {B : Gr} {W : WX} (h : Bd X W P w K mg base 3 N_mersenne_primes_to (defScope s_mersenne_primes_to)) : QSs X B W (defBody s_mersenne_primes_to) f_mersenne_primes_to := by
  have v0 := h.vr (i := 0) (x := "most") (by rfl) (by decide +kernel)
  have v1 := h.vr (i := 1) (x := "able") (by rfl) (by decide +kernel)
  have ll1 := h.ll (i := 1) (x := "able") (by rfl) (by decide +kernel)
  have n2 : X.N[2]? = some ("prime" : Str) := by rw [h.hN]; rfl
  have g_LARGEST := h.gl (x := "LARGEST") (by decide +kernel)
  have g_need_whole := h.gl (x := "need_whole") (by decide +kernel)
  have g_range := h.gl (x := "range") (by decide +kernel)
  have g_tuple := h.gl (x := "tuple") (by decide +kernel)
  exact (ss_cons (s_exp (q_call (Wd.callee h.wd c_need_whole g_need_whole (by rfl)) (h.wd.room.mono (by omega)) h.cc.tk (a_cons (q_var v0) (a_cons q_int (a_cons (q_gint g_LARGEST (h.wd.gint (T.int 75 (by rfl))) (by rfl)) a_nil (by rfl)) (by rfl)) (by rfl)) (len_cons (len_cons (len_cons len_nil))).len (by rfl) (by rfl)) (by rfl))
 (ss_cons (s_setLcT h.cc ll1 (by rfl) (by decide +kernel) (i_r3 (h.wd.blt (T.free 84 (by rfl)) g_range) (a_cons q_int (a_cons (q_op opq_add (q_rd v0) (QE.qr q_int)) (a_cons q_int a_nil (by rfl)) (by rfl)) (by rfl)) (by rfl) (by rfl)) (own := [("prime", 2)]) (by rw [h.hN, h.hsc]; decide +kernel) (fun s1 H1 C1 cl1 fp1 => (g_name (lr_blk h.cc.nd n2 (by decide +kernel)))) (fun s1 H1 C1 cl1 fp1 => (t_val (q_call (Wd.callee (Wd.blk h.wd) c_is_prime_in (gl_blk (by decide +kernel)) (by rfl)) ((Wd.blk h.wd).room.mono (by omega)) takesN0 (a_cons (q_var (vr_blk n2 (by decide +kernel) (by rfl) (by rfl))) a_nil (by rfl)) (len_cons len_nil).len (by rfl) (by rfl)) (fun _ => rfl))) (fun s1 H1 C1 cl1 fp1 => (q_var (vr_blk n2 (by decide +kernel) (by rfl) (by rfl)))) (by decide) (fun _ => rfl))
 (ss_one (s_ret (q_ct cq_tuple (h.wd.blt (T.free 86 (by rfl)) g_tuple) boot_tuple (by decide) (by rfl) (ar_cons (QE.qr (QF.qe (f_lcT h.cc (i_seq (q_var v1)) (own := [("prime", 2)]) (by rw [h.hN, h.hsc]; decide +kernel) (fun s2 H2 C2 cl2 fp2 => (g_name (lr_blk h.cc.nd n2 (by decide +kernel)))) (fun s2 H2 C2 cl2 fp2 => (t_cmp (opq_eq ((Wd.blk h.wd)).hu) (by with_unfolding_all rfl) (QE.qr (q_ix (fun _ _ => rfl) (QE.qr (q_call (Wd.callee (Wd.blk h.wd) c_chain_in (gl_blk (by decide +kernel)) (by rfl)) ((Wd.blk h.wd).room.mono (by omega)) takesN0 (a_cons (q_var (vr_blk n2 (by decide +kernel) (by rfl) (by rfl))) a_nil (by rfl)) (len_cons len_nil).len (by rfl) (by rfl))) (QE.qr (q_neg q_int)))) (QE.qr q_int))) (fun s2 H2 C2 cl2 fp2 => (q_var (vr_blk n2 (by decide +kernel) (by rfl) (by rfl)))) (by decide) (fun _ => rfl)))) ar_nil (by rfl)) (by rfl) (by rfl))))))

theorem sc_mersenne_divisor : FnScope N_mersenne_divisor ["prime", "most"] (defScope s_mersenne_divisor) := ⟨rfl, rfl, rfl, by decide +kernel, rfl, by decide +kernel, by decide +kernel⟩
theorem der_mersenne_divisor {P : Program} {w : World} {K : PySem.W.Frag} {mg : Str → Option Value} {base : Heap} (T : HdL exL tfL fa fn K mg base) (c_need_chained : CalleeK P w K mg base "need_chained" 3 1 m_need_chained) (c_need_whole : CalleeK P w K mg base "need_whole" 3 3 m_need_whole) (c_mersenne_in : CalleeK P w K mg base "mersenne_in" 1 1 m_mersenne_in) (c_least_divisor_by : CalleeK P w K mg base "least_divisor_by" 1 4 m_least_divisor_by) {X : Cx} {B : Gr} {W : WX} (h : Bd X W P w K mg base 3 N_mersenne_divisor (defScope s_mersenne_divisor)) : QSs X B W (defBody s_mersenne_divisor) f_mersenne_divisor := by
  have v0 := h.vr (i := 0) (x := "prime") (by rfl) (by decide +kernel)
  have v1 := h.vr (i := 1) (x := "most") (by rfl) (by decide +kernel)
  have g_MOST_SOUGHT := h.gl (x := "MOST_SOUGHT") (by decide +kernel)
  have g_least_divisor_by := h.gl (x := "least_divisor_by") (by decide +kernel)
  have g_mersenne_in := h.gl (x := "mersenne_in") (by decide +kernel)
  have g_need_chained := h.gl (x := "need_chained") (by decide +kernel)
  have g_need_whole := h.gl (x := "need_whole") (by decide +kernel)
  exact (ss_cons (s_exp (q_call (Wd.callee h.wd c_need_chained g_need_chained (by rfl)) (h.wd.room.mono (by omega)) h.cc.tk (a_cons (q_var v0) a_nil (by rfl)) (len_cons len_nil).len (by rfl) (by rfl)) (by rfl))
 (ss_cons (s_exp (q_call (Wd.callee h.wd c_need_whole g_need_whole (by rfl)) (h.wd.room.mono (by omega)) h.cc.tk (a_cons (q_var v1) (a_cons q_int (a_cons (q_gint g_MOST_SOUGHT (h.wd.gint (T.int 74 (by rfl))) (by rfl)) a_nil (by rfl)) (by rfl)) (by rfl)) (len_cons (len_cons (len_cons len_nil))).len (by rfl) (by rfl)) (by rfl))
 (ss_one (s_ret (q_call (Wd.callee h.wd c_least_divisor_by g_least_divisor_by (by rfl)) (h.wd.room.mono (by omega)) h.cc.tk (a_cons (q_call (Wd.callee h.wd c_mersenne_in g_mersenne_in (by rfl)) (h.wd.room.mono (by omega)) h.cc.tk (a_cons (q_var v0) a_nil (by rfl)) (len_cons len_nil).len (by rfl) (by rfl)) (a_cons (q_op opq_add (QE.qr (q_op opq_mul (QE.qr q_int) (q_rd v0))) (QE.qr q_int)) (a_cons (q_op opq_mul (QE.qr q_int) (q_rd v0)) (a_cons (q_var v1) a_nil (by rfl)) (by rfl)) (by rfl)) (by rfl)) (len_cons (len_cons (len_cons (len_cons len_nil)))).len (by rfl) (by rfl))))))

theorem sc__law_cup : FnScope N__law_cup ["script"] (defScope s__law_cup) := ⟨rfl, rfl, rfl, by decide +kernel, rfl, by decide +kernel, by decide +kernel⟩
theorem der__law_cup {P : Program} {w : World} {K : PySem.W.Frag} {mg : Str → Option Value} {base : Heap} (T : HdL exL tfL fa fn K mg base) {X : Cx} {B : Gr} {W : WX} (h : Bd X W P w K mg base 0 N__law_cup (defScope s__law_cup)) : QSs X B W (defBody s__law_cup) f__law_cup := by
  have v0 := h.vr (i := 0) (x := "script") (by rfl) (by decide +kernel)
  have v1 := h.vr (i := 1) (x := "cell") (by rfl) (by decide +kernel)
  have l1 := h.lr (i := 1) (x := "cell") (by rfl) (by decide +kernel)
  have g_abs := h.gl (x := "abs") (by decide +kernel)
  have g_int := h.gl (x := "int") (by decide +kernel)
  have g_list := h.gl (x := "list") (by decide +kernel)
  exact (ss_cons (s_set l1 (q_cb cq_abs (h.wd.blt (T.free 77 (by rfl)) g_abs) boot_abs (by decide) (by rfl) (ar_cons (QE.qr (q_ix (fun _ _ => rfl) (QE.qr (q_op opq_add (QE.qr (q_ct cq_list (h.wd.blt (T.free 82 (by rfl)) g_list) boot_list (by decide) (by rfl) (ar_cons (q_rd v0) ar_nil (by rfl)) (by rfl) (by rfl))) (QE.qr (QF.qe (f_lst (a_cons q_int a_nil (by rfl))))))) (QE.qr q_int))) ar_nil (by rfl)) (by rfl) (by rfl)) (by rfl))
 (ss_one (s_retH (f_lst (a_cons (q_if (t_cmp opq_ge (by with_unfolding_all rfl) (q_rd v1) (QE.qr (q_op opq_pow (QE.qr q_int) (QE.qr q_int)))) (q_op opq_div (q_rd v1) (QE.qr q_int)) q_int) (a_cons (q_op opq_add (QE.qr (q_op opq_mod (QE.qr (q_ct cq_int (h.wd.blt (T.free 79 (by rfl)) g_int) boot_int (by decide) (by rfl) (ar_cons (QE.qr (q_op opq_add (QE.qr (q_op opq_mul (q_rd v1) (QE.qr q_int))) (QE.qr q_int))) ar_nil (by rfl)) (by rfl) (by rfl))) (QE.qr q_int))) (QE.qr q_int)) a_nil (by rfl)) (by rfl))))))

theorem sc__law_roll : FnScope N__law_roll ["cup", "many"] (defScope s__law_roll) := ⟨rfl, rfl, rfl, by decide +kernel, rfl, by decide +kernel, by decide +kernel⟩
theorem der__law_roll {P : Program} {w : World} {K : PySem.W.Frag} {mg : Str → Option Value} {base : Heap} (T : HdL exL tfL fa fn K mg base) {X : Cx} {B : Gr} {W : WX} (h : Bd X W P w K mg base 0 N__law_roll (defScope s__law_roll)) : QSs X B W (defBody s__law_roll) f__law_roll := by
  have v0 := h.vr (i := 0) (x := "cup") (by rfl) (by decide +kernel)
  have v1 := h.vr (i := 1) (x := "many") (by rfl) (by decide +kernel)
  have v2 := h.vr (i := 2) (x := "found") (by rfl) (by decide +kernel)
  have v3 := h.vr (i := 3) (x := "deep") (by rfl) (by decide +kernel)
  have l2 := h.lr (i := 2) (x := "found") (by rfl) (by decide +kernel)
  have l3 := h.lr (i := 3) (x := "deep") (by rfl) (by decide +kernel)
  have g_int := h.gl (x := "int") (by decide +kernel)
  exact (ss_cons (s_if (t_cmp opq_gt (by with_unfolding_all rfl) (QE.qr (q_ixH v0 (fun _ _ => rfl))) (QE.qr q_int))
  (ss_cons (s_set l2 (q_op opq_mod (QE.qr (q_ct cq_int (h.wd.blt (T.free 79 (by rfl)) g_int) boot_int (by decide) (by rfl) (ar_cons (QE.qr (q_ixH v0 (fun _ _ => rfl))) ar_nil (by rfl)) (by rfl) (by rfl))) (q_rd v1)) (by rfl))
 (ss_cons (s_setIxH v0 (q_op opq_div (QE.qr (q_ixH v0 (fun _ _ => rfl))) (q_rd v1)) (fun _ => rfl) (by rfl) (by rfl) (by rfl))
 (ss_one (s_ret (q_var v2)))))
  ss_nil)
 (ss_cons (s_setIxH v0 (q_op opq_mod (QE.qr (q_ct cq_int (h.wd.blt (T.free 79 (by rfl)) g_int) boot_int (by decide) (by rfl) (ar_cons (QE.qr (q_op opq_add (QE.qr (q_op opq_mul (QE.qr (q_ixH v0 (fun _ _ => rfl))) (QE.qr q_int))) (QE.qr q_int))) ar_nil (by rfl)) (by rfl) (by rfl))) (QE.qr q_int)) (fun _ => rfl) (by rfl) (by rfl) (by rfl))
 (ss_cons (s_set l3 (q_op opq_mod (QE.qr (q_ct cq_int (h.wd.blt (T.free 79 (by rfl)) g_int) boot_int (by decide) (by rfl) (ar_cons (QE.qr (q_op opq_mul (QE.qr (q_ixH v0 (fun _ _ => rfl))) (QE.qr (q_op opq_add (QE.qr (q_ixH v0 (fun _ _ => rfl))) (QE.qr q_int))))) ar_nil (by rfl)) (by rfl) (by rfl))) (QE.qr q_int)) (by rfl))
 (ss_one (s_ret (q_op opq_mod (QE.qr (q_ct cq_int (h.wd.blt (T.free 79 (by rfl)) g_int) boot_int (by decide) (by rfl) (ar_cons (QE.qr (q_op opq_div (q_rd v3) (QE.qr q_int))) ar_nil (by rfl)) (by rfl) (by rfl))) (q_rd v1)))))))

theorem sc__law_some : FnScope N__law_some ["cup", "things"] (defScope s__law_some) := ⟨rfl, rfl, rfl, by decide +kernel, rfl, by decide +kernel, by decide +kernel⟩
theorem der__law_some {P : Program} {w : World} {K : PySem.W.Frag} {mg : Str → Option Value} {base : Heap} (T : HdL exL tfL fa fn K mg base) (c__law_roll : CalleeK P w K mg base "_law_roll" 1 2 m__law_roll) {X : Cx} {B : Gr} {W : WX} (h : Bd X W P w K mg base 1 N__law_some (defScope s__law_some)) : QSs X B W (defBody s__law_some) f__law_some := by
  have v0 := h.vr (i := 0) (x := "cup") (by rfl) (by decide +kernel)
  have v1 := h.vr (i := 1) (x := "things") (by rfl) (by decide +kernel)
  have g__law_roll := h.gl (x := "_law_roll") (by decide +kernel)
  have g_len := h.gl (x := "len") (by decide +kernel)
  exact (ss_one (s_ret (q_ix (fun _ _ => rfl) (q_rd v1) (QE.qr (q_call (Wd.callee h.wd c__law_roll g__law_roll (by rfl)) (h.wd.room.mono (by omega)) h.cc.tk (a_cons (q_var v0) (a_cons (q_cb cq_len (h.wd.blt (T.free 81 (by rfl)) g_len) boot_len (by decide) (by rfl) (ar_cons (q_rd v1) ar_nil (by rfl)) (by rfl) (by rfl)) a_nil (by rfl)) (by rfl)) (len_cons (len_cons len_nil)).len (by rfl) (by rfl))))))

theorem sc__law_sort : FnScope N__law_sort ["value"] (defScope s__law_sort) := ⟨rfl, rfl, rfl, by decide +kernel, rfl, by decide +kernel, by decide +kernel⟩
theorem der__law_sort {P : Program} {w : World} {K : PySem.W.Frag} {mg : Str → Option Value} {base : Heap} (T : HdL exL tfL fa fn K mg base) {X : Cx} {B : Gr} {W : WX} (h : Bd X W P w K mg base 0 N__law_sort (defScope s__law_sort)) : QSs X B W (defBody s__law_sort) f__law_sort := by
  have v0 := h.vr (i := 0) (x := "value") (by rfl) (by decide +kernel)
  have g_bool := h.gl (x := "bool") (by decide +kernel)
  have g_int := h.gl (x := "int") (by decide +kernel)
  have g_isinstance := h.gl (x := "isinstance") (by decide +kernel)
  have g_list := h.gl (x := "list") (by decide +kernel)
  have g_str := h.gl (x := "str") (by decide +kernel)
  have g_tuple := h.gl (x := "tuple") (by decide +kernel)
  exact (ss_cons (s_if (t_w (w_or (t_cmp opq_is (by with_unfolding_all rfl) (q_rd v0) (QE.qr q_non)) (w_or1 (t_val (q_cb cq_isi (h.wd.blt (T.free 80 (by rfl)) g_isinstance) boot_isinstance (by decide) (by rfl) (ar_cons (q_rd v0) (ar_cons (QE.qr (q_ty (h.wd.blt (T.free 78 (by rfl)) g_bool) boot_bool (by decide) (by rfl))) ar_nil (by rfl)) (by rfl)) (by rfl) (by rfl)) (fun _ => rfl)))))
  (ss_one (s_ret (q_if (t_cmp opq_is (by with_unfolding_all rfl) (q_rd v0) (QE.qr q_non)) q_int q_int)))
  ss_nil)
 (ss_cons (s_if (t_w (w_or (t_val (q_cb cq_isi (h.wd.blt (T.free 80 (by rfl)) g_isinstance) boot_isinstance (by decide) (by rfl) (ar_cons (q_rd v0) (ar_cons (QE.qr (q_ty (h.wd.blt (T.free 79 (by rfl)) g_int) boot_int (by decide) (by rfl))) ar_nil (by rfl)) (by rfl)) (by rfl) (by rfl)) (fun _ => rfl)) (w_or1 (t_val (q_cb cq_isi (h.wd.blt (T.free 80 (by rfl)) g_isinstance) boot_isinstance (by decide) (by rfl) (ar_cons (q_rd v0) (ar_cons (QE.qr (q_ty (h.wd.blt (T.free 85 (by rfl)) g_str) boot_str (by decide) (by rfl))) ar_nil (by rfl)) (by rfl)) (by rfl) (by rfl)) (fun _ => rfl)))))
  (ss_one (s_ret (q_if (t_val (q_cb cq_isi (h.wd.blt (T.free 80 (by rfl)) g_isinstance) boot_isinstance (by decide) (by rfl) (ar_cons (q_rd v0) (ar_cons (QE.qr (q_ty (h.wd.blt (T.free 79 (by rfl)) g_int) boot_int (by decide) (by rfl))) ar_nil (by rfl)) (by rfl)) (by rfl) (by rfl)) (fun _ => rfl)) q_int q_int)))
  ss_nil)
 (ss_one (s_ret (q_if (t_val (q_cb cq_isi (h.wd.blt (T.free 80 (by rfl)) g_isinstance) boot_isinstance (by decide) (by rfl) (ar_cons (q_rd v0) (ar_cons (QE.qr (q_ty (h.wd.blt (T.free 86 (by rfl)) g_tuple) boot_tuple (by decide) (by rfl))) ar_nil (by rfl)) (by rfl)) (by rfl) (by rfl)) (fun _ => rfl)) q_int (q_if (t_val (q_cb cq_isi (h.wd.blt (T.free 80 (by rfl)) g_isinstance) boot_isinstance (by decide) (by rfl) (ar_cons (q_rd v0) (ar_cons (QE.qr (q_ty (h.wd.blt (T.free 82 (by rfl)) g_list) boot_list (by decide) (by rfl))) ar_nil (by rfl)) (by rfl)) (by rfl) (by rfl)) (fun _ => rfl)) q_int q_int))))))

theorem sc__law_like : FnScope N__law_like ["one", "other"] (defScope s__law_like) := ⟨rfl, rfl, rfl, by decide +kernel, rfl, by decide +kernel, by decide +kernel⟩
theorem der__law_like {P : Program} {w : World} {K : PySem.W.Frag} {mg : Str → Option Value} {base : Heap} (T : HdL exL tfL fa fn K mg base) (c__law_sort : CalleeK P w K mg base "_law_sort" 1 1 m__law_sort) {lv : Nat} {mr : MF} (hlv : 1 ≤ lv) (c__law_like : CalleeK P w K mg base "_law_like" lv 2 mr) {X : Cx} {B : Gr} {W : WX} (h : Bd X W P w K mg base lv N__law_like (defScope s__law_like)) : QSs X B W (defBody s__law_like) (f__law_like mr) := by
  have v0 := h.vr (i := 0) (x := "one") (by rfl) (by decide +kernel)
  have v1 := h.vr (i := 1) (x := "other") (by rfl) (by decide +kernel)
  have v2 := h.vr (i := 2) (x := "sort") (by rfl) (by decide +kernel)
  have l2 := h.lr (i := 2) (x := "sort") (by rfl) (by decide +kernel)
  have n3 : X.N[3]? = some ("first" : Str) := by rw [h.hN]; rfl
  have n4 : X.N[4]? = some ("second" : Str) := by rw [h.hN]; rfl
  have g__law_sort := h.gl (x := "_law_sort") (by decide +kernel)
  have g_len := h.gl (x := "len") (by decide +kernel)
  have g_zip := h.gl (x := "zip") (by decide +kernel)
  exact (ss_cons (s_set l2 (q_call (Wd.callee h.wd c__law_sort g__law_sort (by rfl)) (h.wd.room.mono (by omega)) h.cc.tk (a_cons (q_var v1) a_nil (by rfl)) (len_cons len_nil).len (by rfl) (by rfl)) (by rfl))
 (ss_cons (s_if (t_w (w_or (t_cmp (opq_ne (h.wd).hu) (by with_unfolding_all rfl) (QE.qr (q_call (Wd.callee h.wd c__law_sort g__law_sort (by rfl)) (h.wd.room.mono (by omega)) h.cc.tk (a_cons (q_var v0) a_nil (by rfl)) (len_cons len_nil).len (by rfl) (by rfl))) (q_rd v2)) (w_or1 (t_cmp (opq_eq (h.wd).hu) (by with_unfolding_all rfl) (q_rd v2) (QE.qr q_int)))))
  (ss_one (s_ret q_bl))
  ss_nil)
 (ss_cons (s_if (t_cmp opq_in (by with_unfolding_all rfl) (q_rd v2) (QE.qr (q_tup (a_cons q_int (a_cons q_int a_nil (by rfl)) (by rfl)))))
  (ss_one (s_ret (q_and (q_cmp (opq_eq (h.wd).hu) (by with_unfolding_all rfl) (QE.qr (q_cb cq_len (h.wd.blt (T.free 81 (by rfl)) g_len) boot_len (by decide) (by rfl) (ar_cons (q_rd v0) ar_nil (by rfl)) (by rfl) (by rfl))) (QE.qr (q_cb cq_len (h.wd.blt (T.free 81 (by rfl)) g_len) boot_len (by decide) (by rfl) (ar_cons (q_rd v1) ar_nil (by rfl)) (by rfl) (by rfl)))) (q_one (q_cmp (opq_eq (h.wd).hu) (by with_unfolding_all rfl) (QE.qr (QF.qe (f_lcT h.cc (i_zip (h.wd.blt (T.free 87 (by rfl)) g_zip) (a_cons (q_var v0) (a_cons (q_var v1) a_nil (by rfl)) (by rfl)) (by rfl) (by rfl)) (own := [("first", 3), ("second", 4)]) (by rw [h.hN, h.hsc]; decide +kernel) (fun s1 H1 C1 cl1 fp1 => (g_tup (Cc.blk h.cc (by rfl)).calm (gs_cons (g_name (lr_blk h.cc.nd n3 (by decide +kernel))) (gs_cons (g_name (lr_blk h.cc.nd n4 (by decide +kernel))) gs_nil (by rfl)) (by rfl)) (gl_cons (gl_cons gl_nil)).len (by rfl) (by rfl))) (fun s1 H1 C1 cl1 fp1 => (t_not (t_val (q_call (Wd.callee (Wd.blk h.wd) c__law_like (gl_blk (by decide +kernel)) (by rfl)) ((Wd.blk h.wd).room.mono (by omega)) takesN0 (a_cons (q_var (vr_blk n3 (by decide +kernel) (by rfl) (by rfl))) (a_cons (q_var (vr_blk n4 (by decide +kernel) (by rfl) (by rfl))) a_nil (by rfl)) (by rfl)) (len_cons (len_cons len_nil)).len (by rfl) (by rfl)) (fun _ => rfl)))) (fun s1 H1 C1 cl1 fp1 => q_int) (by decide) (fun _ => rfl)))) (QE.qr (QF.qe (f_lst a_nil))))))))
  ss_nil)
 (ss_one (s_ret (q_cmp (opq_eq (h.wd).hu) (by with_unfolding_all rfl) (q_rd v0) (q_rd v1)))))))

theorem sc__law_power : FnScope N__law_power ["one", "times", "number"] (defScope s__law_power) := ⟨rfl, rfl, rfl, by decide +kernel, rfl, by decide +kernel, by decide +kernel⟩
theorem der__law_power {P : Program} {w : World} {K : PySem.W.Frag} {mg : Str → Option Value} {base : Heap} (T : HdL exL tfL fa fn K mg base) {X : Cx} {B : Gr} {W : WX} (h : Bd X W P w K mg base 0 N__law_power (defScope s__law_power)) : QSs X B W (defBody s__law_power) f__law_power := by
  have v0 := h.vr (i := 0) (x := "one") (by rfl) (by decide +kernel)
  have v1 := h.vr (i := 1) (x := "times") (by rfl) (by decide +kernel)
  have v2 := h.vr (i := 2) (x := "number") (by rfl) (by decide +kernel)
  have v3 := h.vr (i := 3) (x := "found") (by rfl) (by decide +kernel)
  have v4 := h.vr (i := 4) (x := "here") (by rfl) (by decide +kernel)
  have l3 := h.lr (i := 3) (x := "found") (by rfl) (by decide +kernel)
  have ll1 := h.ll (i := 1) (x := "times") (by rfl) (by decide +kernel)
  have ll3 := h.ll (i := 3) (x := "found") (by rfl) (by decide +kernel)
  have ll4 := h.ll (i := 4) (x := "here") (by rfl) (by decide +kernel)
  have g_int := h.gl (x := "int") (by decide +kernel)
  exact (ss_cons (s_par2 h.cc ll3 ll4 (by decide) (a_cons q_int (a_cons (q_op opq_mod (QE.qr (q_ct cq_int (h.wd.blt (T.free 79 (by rfl)) g_int) boot_int (by decide) (by rfl) (ar_cons (q_rd v0) ar_nil (by rfl)) (by rfl) (by rfl))) (q_rd v2)) a_nil (by rfl)) (by rfl)) (sw2 h.cc.kd ll3.loc ll4.loc (by decide +kernel) (by rfl) (by rfl) (by rfl) (by rfl)) (by rfl))
 (ss_cons (s_while h.cc (t_cmp opq_gt (by with_unfolding_all rfl) (q_rd v1) (QE.qr q_int))
  (ss_cons (s_set l3 (q_if (t_cmp (opq_eq (h.wd).hu) (by with_unfolding_all rfl) (QE.qr (q_op opq_mod (QE.qr (q_ct cq_int (h.wd.blt (T.free 79 (by rfl)) g_int) boot_int (by decide) (by rfl) (ar_cons (q_rd v1) ar_nil (by rfl)) (by rfl) (by rfl))) (QE.qr q_int))) (QE.qr q_int)) (q_op opq_mod (QE.qr (q_ct cq_int (h.wd.blt (T.free 79 (by rfl)) g_int) boot_int (by decide) (by rfl) (ar_cons (QE.qr (q_op opq_mul (q_rd v3) (q_rd v4))) ar_nil (by rfl)) (by rfl) (by rfl))) (q_rd v2)) (q_var v3)) (by rfl))
 (ss_one (s_par2 h.cc ll4 ll1 (by decide) (a_cons (q_op opq_mod (QE.qr (q_ct cq_int (h.wd.blt (T.free 79 (by rfl)) g_int) boot_int (by decide) (by rfl) (ar_cons (QE.qr (q_op opq_mul (q_rd v4) (q_rd v4))) ar_nil (by rfl)) (by rfl) (by rfl))) (q_rd v2)) (a_cons (q_ct cq_int (h.wd.blt (T.free 79 (by rfl)) g_int) boot_int (by decide) (by rfl) (ar_cons (QE.qr (q_op opq_div (q_rd v1) (QE.qr q_int))) ar_nil (by rfl)) (by rfl) (by rfl)) a_nil (by rfl)) (by rfl)) (sw2 h.cc.kd ll4.loc ll1.loc (by decide +kernel) (by rfl) (by rfl) (by rfl) (by rfl)) (by rfl)))))
 (ss_one (s_ret (q_op opq_mod (QE.qr (q_ct cq_int (h.wd.blt (T.free 79 (by rfl)) g_int) boot_int (by decide) (by rfl) (ar_cons (q_rd v3) ar_nil (by rfl)) (by rfl) (by rfl))) (q_rd v2))))))

theorem sc__law_above : FnScope N__law_above ["front", "power"] (defScope s__law_above) := ⟨rfl, rfl, rfl, by decide +kernel, rfl, by decide +kernel, by decide +kernel⟩
theorem der__law_above {P : Program} {w : World} {K : PySem.W.Frag} {mg : Str → Option Value} {base : Heap} (T : HdL exL tfL fa fn K mg base) {X : Cx} {B : Gr} {W : WX} (h : Bd X W P w K mg base 0 N__law_above (defScope s__law_above)) : QSs X B W (defBody s__law_above) f__law_above := by
  have v0 := h.vr (i := 0) (x := "front") (by rfl) (by decide +kernel)
  have v1 := h.vr (i := 1) (x := "power") (by rfl) (by decide +kernel)
  have v2 := h.vr (i := 2) (x := "found") (by rfl) (by decide +kernel)
  have l2 := h.lr (i := 2) (x := "found") (by rfl) (by decide +kernel)
  have l3 := h.lr (i := 3) (x := "turn") (by rfl) (by decide +kernel)
  have g_range := h.gl (x := "range") (by decide +kernel)
  exact (ss_cons (s_set l2 (q_var v0) (by rfl))
 (ss_cons (s_for h.cc (i_r1 (h.wd.blt (T.free 84 (by rfl)) g_range) (a_cons (q_var v1) a_nil (by rfl)) (by rfl)) (g_name l3)
  (ss_one (s_set l2 (q_op opq_mul (QE.qr q_int) (q_rd v2)) (by rfl))) (fun _ => rfl))
 (ss_one (s_ret (q_op opq_add (q_rd v2) (QE.qr q_int))))))

theorem sc__law_sign : FnScope N__law_sign ["one", "odd"] (defScope s__law_sign) := ⟨rfl, rfl, rfl, by decide +kernel, rfl, by decide +kernel, by decide +kernel⟩
theorem der__law_sign {P : Program} {w : World} {K : PySem.W.Frag} {mg : Str → Option Value} {base : Heap} (T : HdL exL tfL fa fn K mg base) {X : Cx} {B : Gr} {W : WX} (h : Bd X W P w K mg base 0 N__law_sign (defScope s__law_sign)) : QSs X B W (defBody s__law_sign) f__law_sign := by
  have v0 := h.vr (i := 0) (x := "one") (by rfl) (by decide +kernel)
  have v1 := h.vr (i := 1) (x := "odd") (by rfl) (by decide +kernel)
  have v2 := h.vr (i := 2) (x := "sign") (by rfl) (by decide +kernel)
  have v3 := h.vr (i := 3) (x := "top") (by rfl) (by decide +kernel)
  have v4 := h.vr (i := 4) (x := "below") (by rfl) (by decide +kernel)
  have l2 := h.lr (i := 2) (x := "sign") (by rfl) (by decide +kernel)
  have ll2 := h.ll (i := 2) (x := "sign") (by rfl) (by decide +kernel)
  have ll3 := h.ll (i := 3) (x := "top") (by rfl) (by decide +kernel)
  have ll4 := h.ll (i := 4) (x := "below") (by rfl) (by decide +kernel)
  have g_int := h.gl (x := "int") (by decide +kernel)
  exact (ss_cons (s_par3 h.cc ll2 ll3 ll4 (by decide) (by decide) (by decide) (a_cons q_int (a_cons (q_op opq_mod (QE.qr (q_ct cq_int (h.wd.blt (T.free 79 (by rfl)) g_int) boot_int (by decide) (by rfl) (ar_cons (q_rd v0) ar_nil (by rfl)) (by rfl) (by rfl))) (q_rd v1)) (a_cons (q_var v1) a_nil (by rfl)) (by rfl)) (by rfl)) (sw3 h.cc.kd ll2.loc ll3.loc ll4.loc (by decide +kernel) (by rfl) (by rfl) (by rfl) (by rfl) (by rfl)) (by rfl))
 (ss_cons (s_while h.cc (t_cmp (opq_ne (h.wd).hu) (by with_unfolding_all rfl) (q_rd v3) (QE.qr q_int))
  (ss_cons (s_while h.cc (t_cmp (opq_eq (h.wd).hu) (by with_unfolding_all rfl) (QE.qr (q_op opq_mod (QE.qr (q_ct cq_int (h.wd.blt (T.free 79 (by rfl)) g_int) boot_int (by decide) (by rfl) (ar_cons (q_rd v3) ar_nil (by rfl)) (by rfl) (by rfl))) (QE.qr q_int))) (QE.qr q_int))
  (ss_one (s_par2 h.cc ll3 ll2 (by decide) (a_cons (q_ct cq_int (h.wd.blt (T.free 79 (by rfl)) g_int) boot_int (by decide) (by rfl) (ar_cons (QE.qr (q_op opq_div (q_rd v3) (QE.qr q_int))) ar_nil (by rfl)) (by rfl) (by rfl)) (a_cons (q_if (t_cmp opq_in (by with_unfolding_all rfl) (QE.qr (q_op opq_mod (QE.qr (q_ct cq_int (h.wd.blt (T.free 79 (by rfl)) g_int) boot_int (by decide) (by rfl) (ar_cons (q_rd v4) ar_nil (by rfl)) (by rfl) (by rfl))) (QE.qr q_int))) (QE.qr (q_tup (a_cons q_int (a_cons q_int a_nil (by rfl)) (by rfl))))) (q_op opq_sub (QE.qr q_int) (q_rd v2)) (q_var v2)) a_nil (by rfl)) (by rfl)) (sw2 h.cc.kd ll3.loc ll2.loc (by decide +kernel) (by rfl) (by rfl) (by rfl) (by rfl)) (by rfl))))
 (ss_cons (s_set l2 (q_if (t_w (w_and (t_cmp (opq_eq (h.wd).hu) (by with_unfolding_all rfl) (QE.qr (q_op opq_mod (QE.qr (q_ct cq_int (h.wd.blt (T.free 79 (by rfl)) g_int) boot_int (by decide) (by rfl) (ar_cons (q_rd v3) ar_nil (by rfl)) (by rfl) (by rfl))) (QE.qr q_int))) (QE.qr q_int)) (w_and1 (t_cmp (opq_eq (h.wd).hu) (by with_unfolding_all rfl) (QE.qr (q_op opq_mod (QE.qr (q_ct cq_int (h.wd.blt (T.free 79 (by rfl)) g_int) boot_int (by decide) (by rfl) (ar_cons (q_rd v4) ar_nil (by rfl)) (by rfl) (by rfl))) (QE.qr q_int))) (QE.qr q_int))))) (q_op opq_sub (QE.qr q_int) (q_rd v2)) (q_var v2)) (by rfl))
 (ss_one (s_par2 h.cc ll3 ll4 (by decide) (a_cons (q_op opq_mod (QE.qr (q_ct cq_int (h.wd.blt (T.free 79 (by rfl)) g_int) boot_int (by decide) (by rfl) (ar_cons (q_rd v4) ar_nil (by rfl)) (by rfl) (by rfl))) (q_rd v3)) (a_cons (q_var v3) a_nil (by rfl)) (by rfl)) (sw2 h.cc.kd ll3.loc ll4.loc (by decide +kernel) (by rfl) (by rfl) (by rfl) (by rfl)) (by rfl))))))
 (ss_one (s_ret (q_if (t_cmp (opq_eq (h.wd).hu) (by with_unfolding_all rfl) (q_rd v4) (QE.qr q_int)) (q_var v2) q_int)))))

theorem sc__law_half : FnScope N__law_half ["base", "great"] (defScope s__law_half) := ⟨rfl, rfl, rfl, by decide +kernel, rfl, by decide +kernel, by decide +kernel⟩
theorem der__law_half {P : Program} {w : World} {K : PySem.W.Frag} {mg : Str → Option Value} {base : Heap} (T : HdL exL tfL fa fn K mg base) (c__law_power : CalleeK P w K mg base "_law_power" 1 3 m__law_power) {X : Cx} {B : Gr} {W : WX} (h : Bd X W P w K mg base 1 N__law_half (defScope s__law_half)) : QSs X B W (defBody s__law_half) f__law_half := by
  have v0 := h.vr (i := 0) (x := "base") (by rfl) (by decide +kernel)
  have v1 := h.vr (i := 1) (x := "great") (by rfl) (by decide +kernel)
  have g__law_power := h.gl (x := "_law_power") (by decide +kernel)
  have g_int := h.gl (x := "int") (by decide +kernel)
  exact (ss_one (s_ret (q_call (Wd.callee h.wd c__law_power g__law_power (by rfl)) (h.wd.room.mono (by omega)) h.cc.tk (a_cons (q_op opq_mod (QE.qr (q_ct cq_int (h.wd.blt (T.free 79 (by rfl)) g_int) boot_int (by decide) (by rfl) (ar_cons (q_rd v0) ar_nil (by rfl)) (by rfl) (by rfl))) (q_rd v1)) (a_cons (q_ct cq_int (h.wd.blt (T.free 79 (by rfl)) g_int) boot_int (by decide) (by rfl) (ar_cons (QE.qr (q_op opq_div (QE.qr (q_op opq_sub (q_rd v1) (QE.qr q_int))) (QE.qr q_int))) ar_nil (by rfl)) (by rfl) (by rfl)) (a_cons (q_var v1) a_nil (by rfl)) (by rfl)) (by rfl)) (len_cons (len_cons (len_cons len_nil))).len (by rfl) (by rfl))))

theorem sc__law_is_false : FnScope N__law_is_false ["base", "great"] (defScope s__law_is_false) := ⟨rfl, rfl, rfl, by decide +kernel, rfl, by decide +kernel, by decide +kernel⟩
theorem der__law_is_false {P : Program} {w : World} {K : PySem.W.Frag} {mg : Str → Option Value} {base : Heap} (T : HdL exL tfL fa fn K mg base) (c__law_sign : CalleeK P w K mg base "_law_sign" 1 2 m__law_sign) (c__law_half : CalleeK P w K mg base "_law_half" 2 2 m__law_half) {X : Cx} {B : Gr} {W : WX} (h : Bd X W P w K mg base 2 N__law_is_false (defScope s__law_is_false)) : QSs X B W (defBody s__law_is_false) f__law_is_false := by
  have v0 := h.vr (i := 0) (x := "base") (by rfl) (by decide +kernel)
  have v1 := h.vr (i := 1) (x := "great") (by rfl) (by decide +kernel)
  have v2 := h.vr (i := 2) (x := "rest") (by rfl) (by decide +kernel)
  have v3 := h.vr (i := 3) (x := "sign") (by rfl) (by decide +kernel)
  have ll2 := h.ll (i := 2) (x := "rest") (by rfl) (by decide +kernel)
  have ll3 := h.ll (i := 3) (x := "sign") (by rfl) (by decide +kernel)
  have g__law_half := h.gl (x := "_law_half") (by decide +kernel)
  have g__law_sign := h.gl (x := "_law_sign") (by decide +kernel)
  exact (ss_cons (s_par2 h.cc ll2 ll3 (by decide) (a_cons (q_call (Wd.callee h.wd c__law_half g__law_half (by rfl)) (h.wd.room.mono (by omega)) h.cc.tk (a_cons (q_var v0) (a_cons (q_var v1) a_nil (by rfl)) (by rfl)) (len_cons (len_cons len_nil)).len (by rfl) (by rfl)) (a_cons (q_call (Wd.callee h.wd c__law_sign g__law_sign (by rfl)) (h.wd.room.mono (by omega)) h.cc.tk (a_cons (q_var v0) (a_cons (q_var v1) a_nil (by rfl)) (by rfl)) (len_cons (len_cons len_nil)).len (by rfl) (by rfl)) a_nil (by rfl)) (by rfl)) (sw2 h.cc.kd ll2.loc ll3.loc (by decide +kernel) (by rfl) (by rfl) (by rfl) (by rfl)) (by rfl))
 (ss_one (s_ret (q_cmp (opq_ninX (h.wd).hu2) (by with_unfolding_all rfl) (QE.qr (q_tup (a_cons (q_var v2) (a_cons (q_var v3) a_nil (by rfl)) (by rfl)))) (QE.qr (q_tup (a_cons (q_tup (a_cons q_int (a_cons q_int a_nil (by rfl)) (by rfl))) (a_cons (q_tup (a_cons (q_op opq_sub (q_rd v1) (QE.qr q_int)) (a_cons (q_neg q_int) a_nil (by rfl)) (by rfl))) a_nil (by rfl)) (by rfl))))))))

theorem sc__law_error : FnScope N__law_error ["call"] (defScope s__law_error) := ⟨rfl, rfl, rfl, by decide +kernel, rfl, by decide +kernel, by decide +kernel⟩
theorem lf__law_error {P : Program} {w : World} {K : PySem.W.Frag} {mg : Str → Option Value} {base : Heap} (T : HdL exL tfL fa fn K mg base) : ∀ k : Nat, LamF P w K mg base k "_law_error" cs__law_error := fun k => by
  obtain ⟨fd, F⟩ := T.c.def_ 53 (d := d__law_error) (by rfl)
  refine lamF_of (x := "PrimeError") (c := .ref (He.ga K "PrimeError")) (i := 1) (T.glo 53 (by rfl)) F sc__law_error (FunD.bindsN F (fun _ _ _ _ _ _ us hl => match us, hl with | [_], _ => rfl)) (by rfl) (by rfl) (by rfl) (.inl (by decide +kernel)) (by rfl) (by decide +kernel) (fun X W h => ?_) (lk_cons (exm_of (T.c.fact 88 (by rfl))) (lk_cons (exm_of (T.c.fact 89 (by rfl))) (lk_cons (exm_of (T.c.fact 90 (by rfl))) (lk_cons (exm_of (T.c.fact 91 (by rfl))) lk_nil)))) (fun X W h => ?_) (fun _ => rfl) (fun _ => rfl)
  · have g_PrimeError := h.gl (x := "PrimeError") (by decide +kernel)
    exact ⟨g_PrimeError, by rfl, .inl (by rw [h.wd.hmg]; exact T.glo 58 (by rfl))⟩
  · unfold cs__law_error
    have v1 := h.vr (i := 1) (x := "error") (by rfl) (by decide +kernel)
    have v2 := h.vr (i := 2) (x := "some") (by rfl) (by decide +kernel)
    have l2 := h.lr (i := 2) (x := "some") (by rfl) (by decide +kernel)
    have ll1 := h.ll (i := 1) (x := "error") (by rfl) (by decide +kernel)
    have n2 : X.N[2]? = some ("some" : Str) := by rw [h.hN]; rfl
    have g_InvalidBase := h.gl (x := "InvalidBase") (by decide +kernel)
    have g_InvalidNumber := h.gl (x := "InvalidNumber") (by decide +kernel)
    have g_InvalidPrime := h.gl (x := "InvalidPrime") (by decide +kernel)
    have g_InvalidShape := h.gl (x := "InvalidShape") (by decide +kernel)
    have g_PrimeError := h.gl (x := "PrimeError") (by decide +kernel)
    have g_isinstance := h.gl (x := "isinstance") (by decide +kernel)
    have g_zip := h.gl (x := "zip") (by decide +kernel)
    exact (lk_cons (fun a oe pn hd => su_two (ws := [V.bl false, V.bl false, V.bl true, V.bl false]) h.cc.nd n2 l2.loc (by decide) (.inl (h.fn _)) (sv_list (svs_cons pa1_mono (isi_own h hd pa1_at (exf_at T.x 0 (by rfl)) (of_decide_eq_true (exf_at T.x 4 (by rfl))) v1 g_InvalidShape (T.glo 62 (by rfl)) (by rfl) g_isinstance (T.free 80 (by rfl)) (by rfl) (by rfl) (by rfl)) (svs_cons pa1_mono (isi_own h hd pa1_at (exf_at T.x 0 (by rfl)) (of_decide_eq_true (exf_at T.x 3 (by rfl))) v1 g_InvalidBase (T.glo 61 (by rfl)) (by rfl) g_isinstance (T.free 80 (by rfl)) (by rfl) (by rfl) (by rfl)) (svs_cons pa1_mono (isi_own h hd pa1_at (exf_at T.x 0 (by rfl)) (of_decide_eq_true (exf_at T.x 2 (by rfl))) v1 g_InvalidNumber (T.glo 59 (by rfl)) (by rfl) g_isinstance (T.free 80 (by rfl)) (by rfl) (by rfl) (by rfl)) (svs_cons pa1_mono (isi_own h hd pa1_at (exf_at T.x 0 (by rfl)) (of_decide_eq_true (exf_at T.x 1 (by rfl))) v1 g_InvalidPrime (T.glo 60 (by rfl)) (by rfl) g_isinstance (T.free 80 (by rfl)) (by rfl) (by rfl) (by rfl)) svs_nil (by rfl)) (by rfl)) (by rfl)) (by rfl)) (by decide)) (by rfl) (sv_or (z := "number") (sv_join (w := "number") sv_str (sv_zip (ys := ["shape", "base", "number", "prime"]) (bs := [false, false, true, false]) hd pa2_mono (sv_split (ys := ["shape", "base", "number", "prime"]) sv_str sv_str pa2_mono (by decide) (by decide) (by decide +kernel) (by rfl) (by rfl) (by rfl)) (sv_some n2 v2.vis v2.db v2.cd) (by rfl) (by decide +kernel) (by rfl) (by decide +kernel) (by decide +kernel) (by decide +kernel) (by decide) (by decide) (by decide) g_zip (by show X.mg "zip" = none; rw [h.wd.hmg]; exact T.free 87 (by rfl)) (by rfl) (by rfl) (by rfl) (fun _ => rfl) (fun _ _ => Iff.rfl)) pa2_mono (by decide) (by decide) (by rfl) (by rfl) (by rfl)) sv_str pa2_mono (by decide) (by decide))) (lk_cons (fun a oe pn hd => su_two (ws := [V.bl true, V.bl false, V.bl false, V.bl false]) h.cc.nd n2 l2.loc (by decide) (.inl (h.fn _)) (sv_list (svs_cons pa1_mono (isi_own h hd pa1_at (exf_at T.x 5 (by rfl)) (of_decide_eq_true (exf_at T.x 9 (by rfl))) v1 g_InvalidShape (T.glo 62 (by rfl)) (by rfl) g_isinstance (T.free 80 (by rfl)) (by rfl) (by rfl) (by rfl)) (svs_cons pa1_mono (isi_own h hd pa1_at (exf_at T.x 5 (by rfl)) (of_decide_eq_true (exf_at T.x 8 (by rfl))) v1 g_InvalidBase (T.glo 61 (by rfl)) (by rfl) g_isinstance (T.free 80 (by rfl)) (by rfl) (by rfl) (by rfl)) (svs_cons pa1_mono (isi_own h hd pa1_at (exf_at T.x 5 (by rfl)) (of_decide_eq_true (exf_at T.x 7 (by rfl))) v1 g_InvalidNumber (T.glo 59 (by rfl)) (by rfl) g_isinstance (T.free 80 (by rfl)) (by rfl) (by rfl) (by rfl)) (svs_cons pa1_mono (isi_own h hd pa1_at (exf_at T.x 5 (by rfl)) (of_decide_eq_true (exf_at T.x 6 (by rfl))) v1 g_InvalidPrime (T.glo 60 (by rfl)) (by rfl) g_isinstance (T.free 80 (by rfl)) (by rfl) (by rfl) (by rfl)) svs_nil (by rfl)) (by rfl)) (by rfl)) (by rfl)) (by decide)) (by rfl) (sv_or (z := "shape") (sv_join (w := "shape") sv_str (sv_zip (ys := ["shape", "base", "number", "prime"]) (bs := [true, false, false, false]) hd pa2_mono (sv_split (ys := ["shape", "base", "number", "prime"]) sv_str sv_str pa2_mono (by decide) (by decide) (by decide +kernel) (by rfl) (by rfl) (by rfl)) (sv_some n2 v2.vis v2.db v2.cd) (by rfl) (by decide +kernel) (by rfl) (by decide +kernel) (by decide +kernel) (by decide +kernel) (by decide) (by decide) (by decide) g_zip (by show X.mg "zip" = none; rw [h.wd.hmg]; exact T.free 87 (by rfl)) (by rfl) (by rfl) (by rfl) (fun _ => rfl) (fun _ _ => Iff.rfl)) pa2_mono (by decide) (by decide) (by rfl) (by rfl) (by rfl)) sv_str pa2_mono (by decide) (by decide))) (lk_cons (fun a oe pn hd => su_two (ws := [V.bl false, V.bl true, V.bl false, V.bl false]) h.cc.nd n2 l2.loc (by decide) (.inl (h.fn _)) (sv_list (svs_cons pa1_mono (isi_own h hd pa1_at (exf_at T.x 10 (by rfl)) (of_decide_eq_true (exf_at T.x 14 (by rfl))) v1 g_InvalidShape (T.glo 62 (by rfl)) (by rfl) g_isinstance (T.free 80 (by rfl)) (by rfl) (by rfl) (by rfl)) (svs_cons pa1_mono (isi_own h hd pa1_at (exf_at T.x 10 (by rfl)) (of_decide_eq_true (exf_at T.x 13 (by rfl))) v1 g_InvalidBase (T.glo 61 (by rfl)) (by rfl) g_isinstance (T.free 80 (by rfl)) (by rfl) (by rfl) (by rfl)) (svs_cons pa1_mono (isi_own h hd pa1_at (exf_at T.x 10 (by rfl)) (of_decide_eq_true (exf_at T.x 12 (by rfl))) v1 g_InvalidNumber (T.glo 59 (by rfl)) (by rfl) g_isinstance (T.free 80 (by rfl)) (by rfl) (by rfl) (by rfl)) (svs_cons pa1_mono (isi_own h hd pa1_at (exf_at T.x 10 (by rfl)) (of_decide_eq_true (exf_at T.x 11 (by rfl))) v1 g_InvalidPrime (T.glo 60 (by rfl)) (by rfl) g_isinstance (T.free 80 (by rfl)) (by rfl) (by rfl) (by rfl)) svs_nil (by rfl)) (by rfl)) (by rfl)) (by rfl)) (by decide)) (by rfl) (sv_or (z := "base") (sv_join (w := "base") sv_str (sv_zip (ys := ["shape", "base", "number", "prime"]) (bs := [false, true, false, false]) hd pa2_mono (sv_split (ys := ["shape", "base", "number", "prime"]) sv_str sv_str pa2_mono (by decide) (by decide) (by decide +kernel) (by rfl) (by rfl) (by rfl)) (sv_some n2 v2.vis v2.db v2.cd) (by rfl) (by decide +kernel) (by rfl) (by decide +kernel) (by decide +kernel) (by decide +kernel) (by decide) (by decide) (by decide) g_zip (by show X.mg "zip" = none; rw [h.wd.hmg]; exact T.free 87 (by rfl)) (by rfl) (by rfl) (by rfl) (fun _ => rfl) (fun _ _ => Iff.rfl)) pa2_mono (by decide) (by decide) (by rfl) (by rfl) (by rfl)) sv_str pa2_mono (by decide) (by decide))) (lk_cons (fun a oe pn hd => su_two (ws := [V.bl false, V.bl false, V.bl false, V.bl true]) h.cc.nd n2 l2.loc (by decide) (.inl (h.fn _)) (sv_list (svs_cons pa1_mono (isi_own h hd pa1_at (exf_at T.x 15 (by rfl)) (of_decide_eq_true (exf_at T.x 19 (by rfl))) v1 g_InvalidShape (T.glo 62 (by rfl)) (by rfl) g_isinstance (T.free 80 (by rfl)) (by rfl) (by rfl) (by rfl)) (svs_cons pa1_mono (isi_own h hd pa1_at (exf_at T.x 15 (by rfl)) (of_decide_eq_true (exf_at T.x 18 (by rfl))) v1 g_InvalidBase (T.glo 61 (by rfl)) (by rfl) g_isinstance (T.free 80 (by rfl)) (by rfl) (by rfl) (by rfl)) (svs_cons pa1_mono (isi_own h hd pa1_at (exf_at T.x 15 (by rfl)) (of_decide_eq_true (exf_at T.x 17 (by rfl))) v1 g_InvalidNumber (T.glo 59 (by rfl)) (by rfl) g_isinstance (T.free 80 (by rfl)) (by rfl) (by rfl) (by rfl)) (svs_cons pa1_mono (isi_own h hd pa1_at (exf_at T.x 15 (by rfl)) (of_decide_eq_true (exf_at T.x 16 (by rfl))) v1 g_InvalidPrime (T.glo 60 (by rfl)) (by rfl) g_isinstance (T.free 80 (by rfl)) (by rfl) (by rfl) (by rfl)) svs_nil (by rfl)) (by rfl)) (by rfl)) (by rfl)) (by decide)) (by rfl) (sv_or (z := "prime") (sv_join (w := "prime") sv_str (sv_zip (ys := ["shape", "base", "number", "prime"]) (bs := [false, false, false, true]) hd pa2_mono (sv_split (ys := ["shape", "base", "number", "prime"]) sv_str sv_str pa2_mono (by decide) (by decide) (by decide +kernel) (by rfl) (by rfl) (by rfl)) (sv_some n2 v2.vis v2.db v2.cd) (by rfl) (by decide +kernel) (by rfl) (by decide +kernel) (by decide +kernel) (by decide +kernel) (by decide) (by decide) (by decide) g_zip (by show X.mg "zip" = none; rw [h.wd.hmg]; exact T.free 87 (by rfl)) (by rfl) (by rfl) (by rfl) (fun _ => rfl) (fun _ _ => Iff.rfl)) pa2_mono (by decide) (by decide) (by rfl) (by rfl) (by rfl)) sv_str pa2_mono (by decide) (by decide))) lk_nil))))

theorem sc__law_shapes_right : FnScope N__law_shapes_right ["odd"] (defScope s__law_shapes_right) := ⟨rfl, rfl, rfl, by decide +kernel, rfl, by decide +kernel, by decide +kernel⟩
theorem der__law_shapes_right {P : Program} {w : World} {K : PySem.W.Frag} {mg : Str → Option Value} {base : Heap} (T : HdL exL tfL fa fn K mg base) (c__law_error : ∀ k : Nat, LamF P w K mg base k "_law_error" cs__law_error) (c_is_mersenne_prime : CalleeK P w K mg base "is_mersenne_prime" 4 1 m_is_mersenne_prime) (c_lucas_chain : CalleeK P w K mg base "lucas_chain" 4 1 m_lucas_chain) (c_mersenne_number : CalleeK P w K mg base "mersenne_number" 4 1 m_mersenne_number) (c_is_fermat_prime : CalleeK P w K mg base "is_fermat_prime" 4 1 m_is_fermat_prime) (c_pepin_rest : CalleeK P w K mg base "pepin_rest" 4 1 m_pepin_rest) (c_fermat_number : CalleeK P w K mg base "fermat_number" 4 1 m_fermat_number) (c_is_false_paper : CalleeK P w K mg base "is_false_paper" 5 3 m_is_false_paper) (c_false_paper : CalleeK P w K mg base "false_paper" 5 2 m_false_paper) (c_is_proth_paper : CalleeK P w K mg base "is_proth_paper" 5 3 m_is_proth_paper) (c_proth_paper : CalleeK P w K mg base "proth_paper" 5 2 m_proth_paper) (c_is_shape_prime : CalleeK P w K mg base "is_shape_prime" 5 2 m_is_shape_prime) (c_number_above : CalleeK P w K mg base "number_above" 5 2 m_number_above) (c_is_two_shape : CalleeK P w K mg base "is_two_shape" 4 2 m_is_two_shape) (c_half_rest : CalleeK P w K mg base "half_rest" 4 2 m_half_rest) (c_shape_of : CalleeK P w K mg base "shape_of" 4 1 m_shape_of) {X : Cx} {B : Gr} {W : WX} (h : Bd X W P w K mg base 7 N__law_shapes_right (defScope s__law_shapes_right)) (hmk : Mk0 X K "_law_shapes_right" ("_law_shapes_right" ++ ".<locals>.")) : QSs X B W (defBody s__law_shapes_right) f__law_shapes_right := by
  have v0 := h.vr (i := 0) (x := "odd") (by rfl) (by decide +kernel)
  have v1 := h.vr (i := 1) (x := "two") (by rfl) (by decide +kernel)
  have v2 := h.vr (i := 2) (x := "three") (by rfl) (by decide +kernel)
  have v3 := h.vr (i := 3) (x := "bads") (by rfl) (by decide +kernel)
  have v4 := h.vr (i := 4) (x := "front") (by rfl) (by decide +kernel)
  have v5 := h.vr (i := 5) (x := "power") (by rfl) (by decide +kernel)
  have v6 := h.vr (i := 6) (x := "words") (by rfl) (by decide +kernel)
  have l3 := h.lr (i := 3) (x := "bads") (by rfl) (by decide +kernel)
  have l4 := h.lr (i := 4) (x := "front") (by rfl) (by decide +kernel)
  have l5 := h.lr (i := 5) (x := "power") (by rfl) (by decide +kernel)
  have l6 := h.lr (i := 6) (x := "words") (by rfl) (by decide +kernel)
  have l7 := h.lr (i := 7) (x := "bad") (by rfl) (by decide +kernel)
  have ll1 := h.ll (i := 1) (x := "two") (by rfl) (by decide +kernel)
  have ll2 := h.ll (i := 2) (x := "three") (by rfl) (by decide +kernel)
  have ll6 := h.ll (i := 6) (x := "words") (by rfl) (by decide +kernel)
  have n0 : X.N[0]? = some ("odd" : Str) := by rw [h.hN]; rfl
  have k0 : X.env.scope.names.lookup ("odd" : Str) = some .cell := by rw [h.hsc]; decide +kernel
  have n4 : X.N[4]? = some ("front" : Str) := by rw [h.hN]; rfl
  have k4 : X.env.scope.names.lookup ("front" : Str) = some .cell := by rw [h.hsc]; decide +kernel
  have n5 : X.N[5]? = some ("power" : Str) := by rw [h.hN]; rfl
  have k5 : X.env.scope.names.lookup ("power" : Str) = some .cell := by rw [h.hsc]; decide +kernel
  have n7 : X.N[7]? = some ("bad" : Str) := by rw [h.hN]; rfl
  have k7 : X.env.scope.names.lookup ("bad" : Str) = some .cell := by rw [h.hsc]; decide +kernel
  have n8 : X.N[8]? = some ("call" : Str) := by rw [h.hN]; rfl
  have g__law_error := h.gl (x := "_law_error") (by decide +kernel)
  have g_false_paper := h.gl (x := "false_paper") (by decide +kernel)
  have g_is_false_paper := h.gl (x := "is_false_paper") (by decide +kernel)
  have g_is_proth_paper := h.gl (x := "is_proth_paper") (by decide +kernel)
  have g_is_shape_prime := h.gl (x := "is_shape_prime") (by decide +kernel)
  have g_is_two_shape := h.gl (x := "is_two_shape") (by decide +kernel)
  have g_number_above := h.gl (x := "number_above") (by decide +kernel)
  have g_proth_paper := h.gl (x := "proth_paper") (by decide +kernel)
  exact (ss_cons (s_par2 h.cc ll1 ll2 (by decide) (a_cons (QF.qe (f_lst (a_cons (q_gref g_number_above (h.wd.gref (T.glo 19 (by rfl))) (by rfl)) (a_cons (q_gref g_is_shape_prime (h.wd.gref (T.glo 22 (by rfl))) (by rfl)) (a_cons (q_gref g_proth_paper (h.wd.gref (T.glo 23 (by rfl))) (by rfl)) (a_cons (q_gref g_false_paper (h.wd.gref (T.glo 25 (by rfl))) (by rfl)) a_nil (by rfl)) (by rfl)) (by rfl)) (by rfl)))) (a_cons (QF.qe (f_lst (a_cons (q_gref g_is_proth_paper (h.wd.gref (T.glo 24 (by rfl))) (by rfl)) (a_cons (q_gref g_is_false_paper (h.wd.gref (T.glo 26 (by rfl))) (by rfl)) a_nil (by rfl)) (by rfl)))) a_nil (by rfl)) (by rfl)) (sw2 h.cc.kd ll1.loc ll2.loc (by decide +kernel) (by rfl) (by rfl) (by rfl) (by rfl)) (by rfl))
 (ss_cons (s_set l3 (QF.qe (f_lst (a_cons (q_tup (a_cons q_non (a_cons q_int a_nil (by rfl)) (by rfl))) (a_cons (q_tup (a_cons q_int (a_cons q_non a_nil (by rfl)) (by rfl))) (a_cons (q_tup (a_cons q_int (a_cons q_int a_nil (by rfl)) (by rfl))) (a_cons (q_tup (a_cons q_int (a_cons q_int a_nil (by rfl)) (by rfl))) (a_cons (q_tup (a_cons q_int (a_cons q_int a_nil (by rfl)) (by rfl))) (a_cons (q_tup (a_cons q_int (a_cons q_int a_nil (by rfl)) (by rfl))) (a_cons (q_tup (a_cons (q_neg q_int) (a_cons q_int a_nil (by rfl)) (by rfl))) (a_cons (q_tup (a_cons q_int (a_cons q_int a_nil (by rfl)) (by rfl))) (a_cons (q_tup (a_cons q_int (a_cons (q_neg q_int) a_nil (by rfl)) (by rfl))) (a_cons (q_tup (a_cons q_bl (a_cons q_int a_nil (by rfl)) (by rfl))) (a_cons (q_tup (a_cons q_int (a_cons q_bl a_nil (by rfl)) (by rfl))) (a_cons (q_tup (a_cons q_str (a_cons q_int a_nil (by rfl)) (by rfl))) (a_cons (q_tup (a_cons q_int (a_cons q_str a_nil (by rfl)) (by rfl))) (a_cons (q_tup (a_cons q_int (a_cons q_int a_nil (by rfl)) (by rfl))) (a_cons (q_tup (a_cons q_int (a_cons q_int a_nil (by rfl)) (by rfl))) a_nil (by rfl)) (by rfl)) (by rfl)) (by rfl)) (by rfl)) (by rfl)) (by rfl)) (by rfl)) (by rfl)) (by rfl)) (by rfl)) (by rfl)) (by rfl)) (by rfl)) (by rfl)))) (by rfl))
 (ss_cons (s_for h.cc (i_seq (q_op opq_add (q_rd v3) (QE.qr (QF.qe (f_lst (a_cons (q_tup (a_cons (q_op opq_add (QE.qr (q_op opq_pow (QE.qr q_int) (QE.qr q_int))) (QE.qr q_int)) (a_cons q_int a_nil (by rfl)) (by rfl))) (a_cons (q_tup (a_cons (q_tup (a_cons q_int a_nil (by rfl))) (a_cons q_int a_nil (by rfl)) (by rfl))) (a_cons (q_tup (a_cons (q_var v0) (a_cons q_int a_nil (by rfl)) (by rfl))) (a_cons (q_tup (a_cons q_int (a_cons (q_var v0) a_nil (by rfl)) (by rfl))) a_nil (by rfl)) (by rfl)) (by rfl)) (by rfl))))))) (g_tup h.cc.calm (gs_cons (g_name l4) (gs_cons (g_name l5) gs_nil (by rfl)) (by rfl)) (gl_cons (gl_cons gl_nil)).len (by rfl) (by rfl))
  (ss_cons (s_set l6 (q_op opq_add (QE.qr (QF.qe (f_lc h.cc (i_seq (q_var v1)) (own := [("call", 8)]) (by rw [h.hN, h.hsc]; decide +kernel) (fun s1 H1 C1 cl1 fp1 => (g_name (lr_blk h.cc.nd n8 (by decide +kernel)))) (fun s1 H1 C1 cl1 fp1 => (q_lamC (dv := []) (ps := []) (Wd.blk h.wd) (c__law_error _) (gl_blk (by decide +kernel)) (by rfl) (Mk0.blk hmk) (T.tbs "_law_shapes_right" (by decide)) (by rfl) (lm_at h.hN (scope_in h.hsc) (by decide +kernel)) (.inl ⟨rfl, rfl⟩) (lamBinds0 (fun _ _ _ _ => rfl)) (fun A2 o2 s2 H2 E2 f2 c2 hr2 => (q_callV (Wd.tabs (wd_lam (Wd.blk h.wd) hr2) (tab_cons c_number_above (T.glo 19 (by rfl)) (by omega) (tab_cons c_is_shape_prime (T.glo 22 (by rfl)) (by omega) (tab_cons c_proth_paper (T.glo 23 (by rfl)) (by omega) (tab_cons c_is_proth_paper (T.glo 24 (by rfl)) (by omega) (tab_cons c_false_paper (T.glo 25 (by rfl)) (by omega) (tab_cons c_is_false_paper (T.glo 26 (by rfl)) (by omega) (tab_cons c_fermat_number (T.glo 31 (by rfl)) (by omega) (tab_cons c_pepin_rest (T.glo 32 (by rfl)) (by omega) (tab_cons c_is_fermat_prime (T.glo 33 (by rfl)) (by omega) (tab_cons c_mersenne_number (T.glo 38 (by rfl)) (by omega) (tab_cons c_lucas_chain (T.glo 39 (by rfl)) (by omega) (tab_cons c_is_mersenne_prime (T.glo 40 (by rfl)) (by omega) tab_nil))))))))))))) (wd_lam (Wd.blk h.wd) hr2).room (vr_lam n8 (by decide +kernel) (by rfl) (by rfl)) tk_lam (a_cons (q_var (vr_lam n4 (by decide +kernel) (by rfl) (by rfl))) (a_cons (q_var (vr_lam n5 (by decide +kernel) (by rfl) (by rfl))) a_nil (by rfl)) (by rfl)) (by rfl) (by rfl))))) (by decide) (fun _ => rfl)))) (QE.qr (QF.qe (f_lc h.cc (i_seq (q_var v2)) (own := [("call", 8)]) (by rw [h.hN, h.hsc]; decide +kernel) (fun s3 H3 C3 cl3 fp3 => (g_name (lr_blk h.cc.nd n8 (by decide +kernel)))) (fun s3 H3 C3 cl3 fp3 => (q_lamC (dv := [0]) (ps := ["one"]) (Wd.blk h.wd) (c__law_error _) (gl_blk (by decide +kernel)) (by rfl) (Mk0.blk hmk) (T.tbs "_law_shapes_right" (by decide)) (by rfl) (lm_at h.hN (scope_in h.hsc) (by decide +kernel)) (.inr ⟨0, _, _, rfl, rfl⟩) (lamBinds1 (z := 0) (p := "one") (fun _ _ _ _ _ _ => ⟨_, rfl, rfl⟩)) (fun A4 o4 s4 H4 E4 f4 c4 hr4 => (q_callV (Wd.tabs (wd_lam (Wd.blk h.wd) hr4) (tab_cons c_number_above (T.glo 19 (by rfl)) (by omega) (tab_cons c_is_shape_prime (T.glo 22 (by rfl)) (by omega) (tab_cons c_proth_paper (T.glo 23 (by rfl)) (by omega) (tab_cons c_is_proth_paper (T.glo 24 (by rfl)) (by omega) (tab_cons c_false_paper (T.glo 25 (by rfl)) (by omega) (tab_cons c_is_false_paper (T.glo 26 (by rfl)) (by omega) (tab_cons c_fermat_number (T.glo 31 (by rfl)) (by omega) (tab_cons c_pepin_rest (T.glo 32 (by rfl)) (by omega) (tab_cons c_is_fermat_prime (T.glo 33 (by rfl)) (by omega) (tab_cons c_mersenne_number (T.glo 38 (by rfl)) (by omega) (tab_cons c_lucas_chain (T.glo 39 (by rfl)) (by omega) (tab_cons c_is_mersenne_prime (T.glo 40 (by rfl)) (by omega) tab_nil))))))))))))) (wd_lam (Wd.blk h.wd) hr4).room (vr_lam n8 (by decide +kernel) (by rfl) (by rfl)) tk_lam (a_cons (q_var (vr_lam n4 (by decide +kernel) (by rfl) (by rfl))) (a_cons (q_var (vr_lam n5 (by decide +kernel) (by rfl) (by rfl))) (a_cons (q_var (vr_lam n0 (by decide +kernel) (by rfl) (by rfl))) a_nil (by rfl)) (by rfl)) (by rfl)) (by rfl) (by rfl))))) (by decide) (fun _ => rfl))))) (by rfl))
 (ss_one (s_if (t_w (w_or (t_cmp (opq_ne (h.wd).hu) (by with_unfolding_all rfl) (q_rd v6) (QE.qr (q_op opq_mul (QE.qr (QF.qe (f_lst (a_cons q_str a_nil (by rfl))))) (QE.qr q_int)))) (w_or1 (t_cmp opq_isNB (by with_unfolding_all rfl) (QE.qr (q_call (Wd.callee h.wd c_is_two_shape g_is_two_shape (by rfl)) (h.wd.room.mono (by omega)) h.cc.tk (a_cons (q_var v4) (a_cons (q_var v5) a_nil (by rfl)) (by rfl)) (len_cons (len_cons len_nil)).len (by rfl) (by rfl))) (QE.qr q_bl)))))
  (ss_one (s_ret q_bl))
  ss_nil))) (fun _ => rfl))
 (ss_cons (s_setLc h.cc ll6 (by rfl) (by decide +kernel) (i_seq (q_tup (a_cons q_non (a_cons (q_op opq_pow (QE.qr q_int) (QE.qr q_int)) (a_cons (q_neg (q_op opq_pow (QE.qr q_int) (QE.qr q_int))) (a_cons q_bl (a_cons q_str (a_cons (q_tup (a_cons q_int a_nil (by rfl))) a_nil (by rfl)) (by rfl)) (by rfl)) (by rfl)) (by rfl)) (by rfl)))) (own := [("bad", 7)]) (by rw [h.hN, h.hsc]; decide +kernel) (fun s5 H5 C5 cl5 fp5 => (g_name (lr_blk h.cc.nd n7 (by decide +kernel)))) (fun s5 H5 C5 cl5 fp5 => (q_lamC (dv := []) (ps := []) (Wd.blk h.wd) (c__law_error _) (gl_blk (by decide +kernel)) (by rfl) (Mk0.blk hmk) (T.tbs "_law_shapes_right" (by decide)) (by rfl) (lm_at h.hN (scope_in h.hsc) (by decide +kernel)) (.inl ⟨rfl, rfl⟩) (lamBinds0 (fun _ _ _ _ => rfl)) (fun A6 o6 s6 H6 E6 f6 c6 hr6 => (q_call (Wd.callee (wd_lam (Wd.blk h.wd) hr6) c_half_rest (gl_lam (by decide +kernel)) (by rfl)) ((wd_lam (Wd.blk h.wd) hr6).room.mono (by omega)) tk_lam (a_cons (q_var (vr_lam n7 (by decide +kernel) (by rfl) (by rfl))) (a_cons (q_var (vr_lam n0 (by decide +kernel) (by rfl) (by rfl))) a_nil (by rfl)) (by rfl)) (len_cons (len_cons len_nil)).len (by rfl) (by rfl))))) (by decide) (fun _ => rfl))
 (ss_cons (s_if (t_cmp (opq_ne (h.wd).hu) (by with_unfolding_all rfl) (q_rd v6) (QE.qr (q_op opq_mul (QE.qr (QF.qe (f_lst (a_cons q_str a_nil (by rfl))))) (QE.qr q_int))))
  (ss_one (s_ret q_bl))
  ss_nil)
 (ss_cons (s_set l6 (QF.qe (f_lst a_nil)) (by rfl))
 (ss_cons (s_for h.cc (i_seq (q_tup (a_cons q_non (a_cons q_int (a_cons q_int (a_cons q_int (a_cons q_int (a_cons (q_neg q_int) (a_cons (q_op opq_pow (QE.qr q_int) (QE.qr q_int)) (a_cons (q_op opq_add (QE.qr (q_op opq_pow (QE.qr q_int) (QE.qr q_int))) (QE.qr q_int)) (a_cons q_bl (a_cons q_str (a_cons (q_tup (a_cons q_int a_nil (by rfl))) a_nil (by rfl)) (by rfl)) (by rfl)) (by rfl)) (by rfl)) (by rfl)) (by rfl)) (by rfl)) (by rfl)) (by rfl)) (by rfl)))) (g_name l7)
  (ss_one (s_set l6 (q_op opq_add (q_rd v6) (QE.qr (QF.qe (f_lst (a_cons (q_lamC (dv := []) (ps := []) h.wd (c__law_error _) g__law_error (by rfl) hmk (T.tbs "_law_shapes_right" (by decide)) (by rfl) (lm_at h.hN h.hsc (by decide +kernel)) (.inl ⟨rfl, rfl⟩) (lamBinds0 (fun _ _ _ _ => rfl)) (fun A8 o8 s8 H8 E8 f8 c8 hr8 => (q_call (Wd.callee (wd_lam h.wd hr8) c_shape_of (gl_lam (by decide +kernel)) (by rfl)) ((wd_lam h.wd hr8).room.mono (by omega)) tk_lam (a_cons (q_var (vr_lam n7 (by decide +kernel) (by rfl) (by rfl))) a_nil (by rfl)) (len_cons len_nil).len (by rfl) (by rfl)))) (a_cons (q_lamC (dv := [0]) (ps := ["one"]) h.wd (c__law_error _) g__law_error (by rfl) hmk (T.tbs "_law_shapes_right" (by decide)) (by rfl) (lm_at h.hN h.hsc (by decide +kernel)) (.inr ⟨0, _, _, rfl, rfl⟩) (lamBinds1 (z := 0) (p := "one") (fun _ _ _ _ _ _ => ⟨_, rfl, rfl⟩)) (fun A7 o7 s7 H7 E7 f7 c7 hr7 => (q_call (Wd.callee (wd_lam h.wd hr7) c_half_rest (gl_lam (by decide +kernel)) (by rfl)) ((wd_lam h.wd hr7).room.mono (by omega)) tk_lam (a_cons q_int (a_cons (q_var (vr_lam n7 (by decide +kernel) (by rfl) (by rfl))) a_nil (by rfl)) (by rfl)) (len_cons (len_cons len_nil)).len (by rfl) (by rfl)))) a_nil (by rfl)) (by rfl)))))) (by rfl))) (fun _ => rfl))
 (ss_one (s_ret (q_cmp (opq_eq (h.wd).hu) (by with_unfolding_all rfl) (q_rd v6) (QE.qr (q_op opq_mul (QE.qr (QF.qe (f_lst (a_cons q_str a_nil (by rfl))))) (QE.qr q_int)))))))))))))

theorem sc__law_numbers_right : FnScope N__law_numbers_right ["odd"] (defScope s__law_numbers_right) := ⟨rfl, rfl, rfl, by decide +kernel, rfl, by decide +kernel, by decide +kernel⟩
theorem der__law_numbers_right {P : Program} {w : World} {K : PySem.W.Frag} {mg : Str → Option Value} {base : Heap} (T : HdL exL tfL fa fn K mg base) (c__law_error : ∀ k : Nat, LamF P w K mg base k "_law_error" cs__law_error) (c_prime_fronts : CalleeK P w K mg base "prime_fronts" 4 2 m_prime_fronts) (c_is_mersenne_prime : CalleeK P w K mg base "is_mersenne_prime" 4 1 m_is_mersenne_prime) (c_lucas_chain : CalleeK P w K mg base "lucas_chain" 4 1 m_lucas_chain) (c_mersenne_number : CalleeK P w K mg base "mersenne_number" 4 1 m_mersenne_number) (c_is_fermat_prime : CalleeK P w K mg base "is_fermat_prime" 4 1 m_is_fermat_prime) (c_pepin_rest : CalleeK P w K mg base "pepin_rest" 4 1 m_pepin_rest) (c_fermat_number : CalleeK P w K mg base "fermat_number" 4 1 m_fermat_number) (c_is_false_paper : CalleeK P w K mg base "is_false_paper" 5 3 m_is_false_paper) (c_false_paper : CalleeK P w K mg base "false_paper" 5 2 m_false_paper) (c_is_proth_paper : CalleeK P w K mg base "is_proth_paper" 5 3 m_is_proth_paper) (c_proth_paper : CalleeK P w K mg base "proth_paper" 5 2 m_proth_paper) (c_is_shape_prime : CalleeK P w K mg base "is_shape_prime" 5 2 m_is_shape_prime) (c_number_above : CalleeK P w K mg base "number_above" 5 2 m_number_above) (c_fermat_divisor : CalleeK P w K mg base "fermat_divisor" 4 2 m_fermat_divisor) (c_mersenne_divisor : CalleeK P w K mg base "mersenne_divisor" 4 2 m_mersenne_divisor) (c_mersenne_primes_to : CalleeK P w K mg base "mersenne_primes_to" 4 1 m_mersenne_primes_to) {X : Cx} {B : Gr} {W : WX} (h : Bd X W P w K mg base 7 N__law_numbers_right (defScope s__law_numbers_right)) (hmk : Mk0 X K "_law_numbers_right" ("_law_numbers_right" ++ ".<locals>.")) : QSs X B W (defBody s__law_numbers_right) f__law_numbers_right := by
  have v1 := h.vr (i := 1) (x := "words") (by rfl) (by decide +kernel)
  have l1 := h.lr (i := 1) (x := "words") (by rfl) (by decide +kernel)
  have l2 := h.lr (i := 2) (x := "bad") (by rfl) (by decide +kernel)
  have n0 : X.N[0]? = some ("odd" : Str) := by rw [h.hN]; rfl
  have k0 : X.env.scope.names.lookup ("odd" : Str) = some .cell := by rw [h.hsc]; decide +kernel
  have n2 : X.N[2]? = some ("bad" : Str) := by rw [h.hN]; rfl
  have k2 : X.env.scope.names.lookup ("bad" : Str) = some .cell := by rw [h.hsc]; decide +kernel
  have n3 : X.N[3]? = some ("call" : Str) := by rw [h.hN]; rfl
  have g__law_error := h.gl (x := "_law_error") (by decide +kernel)
  have g_fermat_number := h.gl (x := "fermat_number") (by decide +kernel)
  have g_is_fermat_prime := h.gl (x := "is_fermat_prime") (by decide +kernel)
  have g_is_mersenne_prime := h.gl (x := "is_mersenne_prime") (by decide +kernel)
  have g_lucas_chain := h.gl (x := "lucas_chain") (by decide +kernel)
  have g_mersenne_number := h.gl (x := "mersenne_number") (by decide +kernel)
  have g_pepin_rest := h.gl (x := "pepin_rest") (by decide +kernel)
  exact (ss_cons (s_setO l1 (f_lst a_nil) (by rfl))
 (ss_cons (s_for h.cc (i_seq (q_tup (a_cons q_non (a_cons q_int (a_cons q_int (a_cons q_bl (a_cons q_str a_nil (by rfl)) (by rfl)) (by rfl)) (by rfl)) (by rfl)))) (g_name l2)
  (ss_one (s_app v1 (q_lamC (dv := []) (ps := []) h.wd (c__law_error _) g__law_error (by rfl) hmk (T.tbs "_law_numbers_right" (by decide)) (by rfl) (lm_at h.hN h.hsc (by decide +kernel)) (.inl ⟨rfl, rfl⟩) (lamBinds0 (fun _ _ _ _ => rfl)) (fun A1 o1 s1 H1 E1 f1 c1 hr1 => (q_call (Wd.callee (wd_lam h.wd hr1) c_prime_fronts (gl_lam (by decide +kernel)) (by rfl)) ((wd_lam h.wd hr1).room.mono (by omega)) tk_lam (a_cons (q_var (vr_lam n2 (by decide +kernel) (by rfl) (by rfl))) (a_cons (q_var (vr_lam n0 (by decide +kernel) (by rfl) (by rfl))) a_nil (by rfl)) (by rfl)) (len_cons (len_cons len_nil)).len (by rfl) (by rfl)))) (by rfl) (by rfl) (by rfl) (by rfl) (by rfl))) (fun _ => rfl))
 (ss_cons (s_for h.cc (i_seq (q_tup (a_cons q_non (a_cons q_int (a_cons q_int (a_cons q_bl (a_cons q_str a_nil (by rfl)) (by rfl)) (by rfl)) (by rfl)) (by rfl)))) (g_name l2)
  (ss_one (s_app v1 (q_lamC (dv := []) (ps := []) h.wd (c__law_error _) g__law_error (by rfl) hmk (T.tbs "_law_numbers_right" (by decide)) (by rfl) (lm_at h.hN h.hsc (by decide +kernel)) (.inl ⟨rfl, rfl⟩) (lamBinds0 (fun _ _ _ _ => rfl)) (fun A2 o2 s2 H2 E2 f2 c2 hr2 => (q_call (Wd.callee (wd_lam h.wd hr2) c_prime_fronts (gl_lam (by decide +kernel)) (by rfl)) ((wd_lam h.wd hr2).room.mono (by omega)) tk_lam (a_cons q_int (a_cons (q_var (vr_lam n2 (by decide +kernel) (by rfl) (by rfl))) a_nil (by rfl)) (by rfl)) (len_cons (len_cons len_nil)).len (by rfl) (by rfl)))) (by rfl) (by rfl) (by rfl) (by rfl) (by rfl))) (fun _ => rfl))
 (ss_cons (s_for h.cc (i_seq (q_tup (a_cons q_non (a_cons (q_neg q_int) (a_cons q_int (a_cons q_bl (a_cons q_str (a_cons (q_tup (a_cons q_int a_nil (by rfl))) a_nil (by rfl)) (by rfl)) (by rfl)) (by rfl)) (by rfl)) (by rfl)))) (g_name l2)
  (ss_cons (s_setO l1 (f_op opf_add (q_rd v1) (QE.qr (QF.qe (f_lc h.cc (i_seq (q_tup (a_cons (q_gref g_fermat_number (h.wd.gref (T.glo 31 (by rfl))) (by rfl)) (a_cons (q_gref g_pepin_rest (h.wd.gref (T.glo 32 (by rfl))) (by rfl)) (a_cons (q_gref g_is_fermat_prime (h.wd.gref (T.glo 33 (by rfl))) (by rfl)) a_nil (by rfl)) (by rfl)) (by rfl)))) (own := [("call", 3)]) (by rw [h.hN, h.hsc]; decide +kernel) (fun s3 H3 C3 cl3 fp3 => (g_name (lr_blk h.cc.nd n3 (by decide +kernel)))) (fun s3 H3 C3 cl3 fp3 => (q_lamC (dv := []) (ps := []) (Wd.blk h.wd) (c__law_error _) (gl_blk (by decide +kernel)) (by rfl) (Mk0.blk hmk) (T.tbs "_law_numbers_right" (by decide)) (by rfl) (lm_at h.hN (scope_in h.hsc) (by decide +kernel)) (.inl ⟨rfl, rfl⟩) (lamBinds0 (fun _ _ _ _ => rfl)) (fun A4 o4 s4 H4 E4 f4 c4 hr4 => (q_callV (Wd.tabs (wd_lam (Wd.blk h.wd) hr4) (tab_cons c_number_above (T.glo 19 (by rfl)) (by omega) (tab_cons c_is_shape_prime (T.glo 22 (by rfl)) (by omega) (tab_cons c_proth_paper (T.glo 23 (by rfl)) (by omega) (tab_cons c_is_proth_paper (T.glo 24 (by rfl)) (by omega) (tab_cons c_false_paper (T.glo 25 (by rfl)) (by omega) (tab_cons c_is_false_paper (T.glo 26 (by rfl)) (by omega) (tab_cons c_fermat_number (T.glo 31 (by rfl)) (by omega) (tab_cons c_pepin_rest (T.glo 32 (by rfl)) (by omega) (tab_cons c_is_fermat_prime (T.glo 33 (by rfl)) (by omega) (tab_cons c_mersenne_number (T.glo 38 (by rfl)) (by omega) (tab_cons c_lucas_chain (T.glo 39 (by rfl)) (by omega) (tab_cons c_is_mersenne_prime (T.glo 40 (by rfl)) (by omega) tab_nil))))))))))))) (wd_lam (Wd.blk h.wd) hr4).room (vr_lam n3 (by decide +kernel) (by rfl) (by rfl)) tk_lam (a_cons (q_var (vr_lam n2 (by decide +kernel) (by rfl) (by rfl))) a_nil (by rfl)) (by rfl) (by rfl))))) (by decide) (fun _ => rfl))))) (by rfl))
 (ss_one (s_app v1 (q_lamC (dv := []) (ps := []) h.wd (c__law_error _) g__law_error (by rfl) hmk (T.tbs "_law_numbers_right" (by decide)) (by rfl) (lm_at h.hN h.hsc (by decide +kernel)) (.inl ⟨rfl, rfl⟩) (lamBinds0 (fun _ _ _ _ => rfl)) (fun A5 o5 s5 H5 E5 f5 c5 hr5 => (q_call (Wd.callee (wd_lam h.wd hr5) c_fermat_divisor (gl_lam (by decide +kernel)) (by rfl)) ((wd_lam h.wd hr5).room.mono (by omega)) tk_lam (a_cons (q_var (vr_lam n2 (by decide +kernel) (by rfl) (by rfl))) (a_cons (q_var (vr_lam n0 (by decide +kernel) (by rfl) (by rfl))) a_nil (by rfl)) (by rfl)) (len_cons (len_cons len_nil)).len (by rfl) (by rfl)))) (by rfl) (by rfl) (by rfl) (by rfl) (by rfl)))) (fun _ => rfl))
 (ss_cons (s_app v1 (q_lamC (dv := []) (ps := []) h.wd (c__law_error _) g__law_error (by rfl) hmk (T.tbs "_law_numbers_right" (by decide)) (by rfl) (lm_at h.hN h.hsc (by decide +kernel)) (.inl ⟨rfl, rfl⟩) (lamBinds0 (fun _ _ _ _ => rfl)) (fun A6 o6 s6 H6 E6 f6 c6 hr6 => (q_call (Wd.callee (wd_lam h.wd hr6) c_pepin_rest (gl_lam (by decide +kernel)) (by rfl)) ((wd_lam h.wd hr6).room.mono (by omega)) tk_lam (a_cons q_int a_nil (by rfl)) (len_cons len_nil).len (by rfl) (by rfl)))) (by rfl) (by rfl) (by rfl) (by rfl) (by rfl))
 (ss_cons (s_for h.cc (i_seq (q_tup (a_cons q_non (a_cons q_int (a_cons (q_op opq_add (QE.qr (q_op opq_pow (QE.qr q_int) (QE.qr q_int))) (QE.qr q_int)) (a_cons q_bl (a_cons q_str a_nil (by rfl)) (by rfl)) (by rfl)) (by rfl)) (by rfl)))) (g_name l2)
  (ss_one (s_setO l1 (f_op opf_add (q_rd v1) (QE.qr (QF.qe (f_lst (a_cons (q_lamC (dv := []) (ps := []) h.wd (c__law_error _) g__law_error (by rfl) hmk (T.tbs "_law_numbers_right" (by decide)) (by rfl) (lm_at h.hN h.hsc (by decide +kernel)) (.inl ⟨rfl, rfl⟩) (lamBinds0 (fun _ _ _ _ => rfl)) (fun A8 o8 s8 H8 E8 f8 c8 hr8 => (q_call (Wd.callee (wd_lam h.wd hr8) c_fermat_divisor (gl_lam (by decide +kernel)) (by rfl)) ((wd_lam h.wd hr8).room.mono (by omega)) tk_lam (a_cons q_int (a_cons (q_var (vr_lam n2 (by decide +kernel) (by rfl) (by rfl))) a_nil (by rfl)) (by rfl)) (len_cons (len_cons len_nil)).len (by rfl) (by rfl)))) (a_cons (q_lamC (dv := [0]) (ps := ["one"]) h.wd (c__law_error _) g__law_error (by rfl) hmk (T.tbs "_law_numbers_right" (by decide)) (by rfl) (lm_at h.hN h.hsc (by decide +kernel)) (.inr ⟨0, _, _, rfl, rfl⟩) (lamBinds1 (z := 0) (p := "one") (fun _ _ _ _ _ _ => ⟨_, rfl, rfl⟩)) (fun A7 o7 s7 H7 E7 f7 c7 hr7 => (q_call (Wd.callee (wd_lam h.wd hr7) c_mersenne_divisor (gl_lam (by decide +kernel)) (by rfl)) ((wd_lam h.wd hr7).room.mono (by omega)) tk_lam (a_cons q_int (a_cons (q_var (vr_lam n2 (by decide +kernel) (by rfl) (by rfl))) a_nil (by rfl)) (by rfl)) (len_cons (len_cons len_nil)).len (by rfl) (by rfl)))) a_nil (by rfl)) (by rfl)))))) (by rfl))) (fun _ => rfl))
 (ss_cons (s_for h.cc (i_seq (q_tup (a_cons q_non (a_cons q_int (a_cons q_int (a_cons q_bl (a_cons q_str a_nil (by rfl)) (by rfl)) (by rfl)) (by rfl)) (by rfl)))) (g_name l2)
  (ss_one (s_app v1 (q_lamC (dv := []) (ps := []) h.wd (c__law_error _) g__law_error (by rfl) hmk (T.tbs "_law_numbers_right" (by decide)) (by rfl) (lm_at h.hN h.hsc (by decide +kernel)) (.inl ⟨rfl, rfl⟩) (lamBinds0 (fun _ _ _ _ => rfl)) (fun A9 o9 s9 H9 E9 f9 c9 hr9 => (q_call (Wd.callee (wd_lam h.wd hr9) c_mersenne_primes_to (gl_lam (by decide +kernel)) (by rfl)) ((wd_lam h.wd hr9).room.mono (by omega)) tk_lam (a_cons (q_var (vr_lam n2 (by decide +kernel) (by rfl) (by rfl))) a_nil (by rfl)) (len_cons len_nil).len (by rfl) (by rfl)))) (by rfl) (by rfl) (by rfl) (by rfl) (by rfl))) (fun _ => rfl))
 (ss_cons (s_if (t_cmp (opq_ne (h.wd).hu) (by with_unfolding_all rfl) (q_rd v1) (QE.qr (q_op opq_mul (QE.qr (QF.qe (f_lst (a_cons q_str a_nil (by rfl))))) (QE.qr q_int))))
  (ss_one (s_ret q_bl))
  ss_nil)
 (ss_cons (s_setO l1 (f_lst a_nil) (by rfl))
 (ss_cons (s_for h.cc (i_seq (q_tup (a_cons q_non (a_cons q_int (a_cons q_int (a_cons q_int (a_cons q_int (a_cons q_int (a_cons (q_neg q_int) (a_cons q_bl (a_cons q_str (a_cons (q_tup (a_cons q_int a_nil (by rfl))) a_nil (by rfl)) (by rfl)) (by rfl)) (by rfl)) (by rfl)) (by rfl)) (by rfl)) (by rfl)) (by rfl)) (by rfl)))) (g_name l2)
  (ss_cons (s_setO l1 (f_op opf_add (q_rd v1) (QE.qr (QF.qe (f_lc h.cc (i_seq (q_tup (a_cons (q_gref g_mersenne_number (h.wd.gref (T.glo 38 (by rfl))) (by rfl)) (a_cons (q_gref g_lucas_chain (h.wd.gref (T.glo 39 (by rfl))) (by rfl)) (a_cons (q_gref g_is_mersenne_prime (h.wd.gref (T.glo 40 (by rfl))) (by rfl)) a_nil (by rfl)) (by rfl)) (by rfl)))) (own := [("call", 3)]) (by rw [h.hN, h.hsc]; decide +kernel) (fun s10 H10 C10 cl10 fp10 => (g_name (lr_blk h.cc.nd n3 (by decide +kernel)))) (fun s10 H10 C10 cl10 fp10 => (q_lamC (dv := []) (ps := []) (Wd.blk h.wd) (c__law_error _) (gl_blk (by decide +kernel)) (by rfl) (Mk0.blk hmk) (T.tbs "_law_numbers_right" (by decide)) (by rfl) (lm_at h.hN (scope_in h.hsc) (by decide +kernel)) (.inl ⟨rfl, rfl⟩) (lamBinds0 (fun _ _ _ _ => rfl)) (fun A11 o11 s11 H11 E11 f11 c11 hr11 => (q_callV (Wd.tabs (wd_lam (Wd.blk h.wd) hr11) (tab_cons c_number_above (T.glo 19 (by rfl)) (by omega) (tab_cons c_is_shape_prime (T.glo 22 (by rfl)) (by omega) (tab_cons c_proth_paper (T.glo 23 (by rfl)) (by omega) (tab_cons c_is_proth_paper (T.glo 24 (by rfl)) (by omega) (tab_cons c_false_paper (T.glo 25 (by rfl)) (by omega) (tab_cons c_is_false_paper (T.glo 26 (by rfl)) (by omega) (tab_cons c_fermat_number (T.glo 31 (by rfl)) (by omega) (tab_cons c_pepin_rest (T.glo 32 (by rfl)) (by omega) (tab_cons c_is_fermat_prime (T.glo 33 (by rfl)) (by omega) (tab_cons c_mersenne_number (T.glo 38 (by rfl)) (by omega) (tab_cons c_lucas_chain (T.glo 39 (by rfl)) (by omega) (tab_cons c_is_mersenne_prime (T.glo 40 (by rfl)) (by omega) tab_nil))))))))))))) (wd_lam (Wd.blk h.wd) hr11).room (vr_lam n3 (by decide +kernel) (by rfl) (by rfl)) tk_lam (a_cons (q_var (vr_lam n2 (by decide +kernel) (by rfl) (by rfl))) a_nil (by rfl)) (by rfl) (by rfl))))) (by decide) (fun _ => rfl))))) (by rfl))
 (ss_one (s_app v1 (q_lamC (dv := []) (ps := []) h.wd (c__law_error _) g__law_error (by rfl) hmk (T.tbs "_law_numbers_right" (by decide)) (by rfl) (lm_at h.hN h.hsc (by decide +kernel)) (.inl ⟨rfl, rfl⟩) (lamBinds0 (fun _ _ _ _ => rfl)) (fun A12 o12 s12 H12 E12 f12 c12 hr12 => (q_call (Wd.callee (wd_lam h.wd hr12) c_mersenne_divisor (gl_lam (by decide +kernel)) (by rfl)) ((wd_lam h.wd hr12).room.mono (by omega)) tk_lam (a_cons (q_var (vr_lam n2 (by decide +kernel) (by rfl) (by rfl))) (a_cons (q_var (vr_lam n0 (by decide +kernel) (by rfl) (by rfl))) a_nil (by rfl)) (by rfl)) (len_cons (len_cons len_nil)).len (by rfl) (by rfl)))) (by rfl) (by rfl) (by rfl) (by rfl) (by rfl)))) (fun _ => rfl))
 (ss_one (s_ret (q_cmp (opq_eq (h.wd).hu) (by with_unfolding_all rfl) (q_rd v1) (QE.qr (q_op opq_mul (QE.qr (QF.qe (f_lst (a_cons q_str a_nil (by rfl))))) (QE.qr q_int))))))))))))))))

theorem sc__law_great_right : FnScope N__law_great_right ["cup"] (defScope s__law_great_right) := ⟨rfl, rfl, rfl, by decide +kernel, rfl, by decide +kernel, by decide +kernel⟩
theorem der__law_great_right {P : Program} {w : World} {K : PySem.W.Frag} {mg : Str → Option Value} {base : Heap} (T : HdL exL tfL fa fn K mg base) (c__law_roll : CalleeK P w K mg base "_law_roll" 1 2 m__law_roll) (c__law_above : CalleeK P w K mg base "_law_above" 1 2 m__law_above) (c_false_paper : CalleeK P w K mg base "false_paper" 5 2 m_false_paper) (c_proth_paper : CalleeK P w K mg base "proth_paper" 5 2 m_proth_paper) (c_is_shape_prime : CalleeK P w K mg base "is_shape_prime" 5 2 m_is_shape_prime) (c_shape_of : CalleeK P w K mg base "shape_of" 4 1 m_shape_of) (c_number_above : CalleeK P w K mg base "number_above" 5 2 m_number_above) (c__law_like : CalleeK P w K mg base "_law_like" 9 2 m__law_like) (c__law_half : CalleeK P w K mg base "_law_half" 2 2 m__law_half) (c__law_is_false : CalleeK P w K mg base "_law_is_false" 3 2 m__law_is_false) (c_lucas_chain : CalleeK P w K mg base "lucas_chain" 4 1 m_lucas_chain) (c_pepin_rest : CalleeK P w K mg base "pepin_rest" 4 1 m_pepin_rest) (c_fermat_number : CalleeK P w K mg base "fermat_number" 4 1 m_fermat_number) (c_mersenne_primes_to : CalleeK P w K mg base "mersenne_primes_to" 4 1 m_mersenne_primes_to) (c_half_rest : CalleeK P w K mg base "half_rest" 4 2 m_half_rest) (c_mersenne_divisor : CalleeK P w K mg base "mersenne_divisor" 4 2 m_mersenne_divisor) {X : Cx} {B : Gr} {W : WX} (h : Bd X W P w K mg base 9 N__law_great_right (defScope s__law_great_right)) : QSs X B W (defBody s__law_great_right) f__law_great_right := by
  have v0 := h.vr (i := 0) (x := "cup") (by rfl) (by decide +kernel)
  have v1 := h.vr (i := 1) (x := "power") (by rfl) (by decide +kernel)
  have v2 := h.vr (i := 2) (x := "front") (by rfl) (by decide +kernel)
  have v3 := h.vr (i := 3) (x := "great") (by rfl) (by decide +kernel)
  have v4 := h.vr (i := 4) (x := "told") (by rfl) (by decide +kernel)
  have v5 := h.vr (i := 5) (x := "paper") (by rfl) (by decide +kernel)
  have v6 := h.vr (i := 6) (x := "false") (by rfl) (by decide +kernel)
  have l1 := h.lr (i := 1) (x := "power") (by rfl) (by decide +kernel)
  have l2 := h.lr (i := 2) (x := "front") (by rfl) (by decide +kernel)
  have l3 := h.lr (i := 3) (x := "great") (by rfl) (by decide +kernel)
  have l4 := h.lr (i := 4) (x := "told") (by rfl) (by decide +kernel)
  have ll4 := h.ll (i := 4) (x := "told") (by rfl) (by decide +kernel)
  have ll5 := h.ll (i := 5) (x := "paper") (by rfl) (by decide +kernel)
  have ll6 := h.ll (i := 6) (x := "false") (by rfl) (by decide +kernel)
  have g__law_above := h.gl (x := "_law_above") (by decide +kernel)
  have g__law_half := h.gl (x := "_law_half") (by decide +kernel)
  have g__law_is_false := h.gl (x := "_law_is_false") (by decide +kernel)
  have g__law_like := h.gl (x := "_law_like") (by decide +kernel)
  have g__law_roll := h.gl (x := "_law_roll") (by decide +kernel)
  have g_false_paper := h.gl (x := "false_paper") (by decide +kernel)
  have g_fermat_number := h.gl (x := "fermat_number") (by decide +kernel)
  have g_half_rest := h.gl (x := "half_rest") (by decide +kernel)
  have g_is_shape_prime := h.gl (x := "is_shape_prime") (by decide +kernel)
  have g_len := h.gl (x := "len") (by decide +kernel)
  have g_lucas_chain := h.gl (x := "lucas_chain") (by decide +kernel)
  have g_mersenne_divisor := h.gl (x := "mersenne_divisor") (by decide +kernel)
  have g_mersenne_primes_to := h.gl (x := "mersenne_primes_to") (by decide +kernel)
  have g_number_above := h.gl (x := "number_above") (by decide +kernel)
  have g_pepin_rest := h.gl (x := "pepin_rest") (by decide +kernel)
  have g_proth_paper := h.gl (x := "proth_paper") (by decide +kernel)
  have g_shape_of := h.gl (x := "shape_of") (by decide +kernel)
  exact (ss_cons (s_set l1 (q_op opq_add (QE.qr q_int) (QE.qr (q_call (Wd.callee h.wd c__law_roll g__law_roll (by rfl)) (h.wd.room.mono (by omega)) h.cc.tk (a_cons (q_var v0) (a_cons q_int a_nil (by rfl)) (by rfl)) (len_cons (len_cons len_nil)).len (by rfl) (by rfl)))) (by rfl))
 (ss_cons (s_set l2 (q_op opq_add (QE.qr (q_op opq_mul (QE.qr q_int) (QE.qr (q_call (Wd.callee h.wd c__law_roll g__law_roll (by rfl)) (h.wd.room.mono (by omega)) h.cc.tk (a_cons (q_var v0) (a_cons (q_op opq_pow (QE.qr q_int) (QE.qr q_int)) a_nil (by rfl)) (by rfl)) (len_cons (len_cons len_nil)).len (by rfl) (by rfl))))) (QE.qr q_int)) (by rfl))
 (ss_cons (s_set l3 (q_call (Wd.callee h.wd c__law_above g__law_above (by rfl)) (h.wd.room.mono (by omega)) h.cc.tk (a_cons (q_var v2) (a_cons (q_var v1) a_nil (by rfl)) (by rfl)) (len_cons (len_cons len_nil)).len (by rfl) (by rfl)) (by rfl))
 (ss_cons (s_par3 h.cc ll4 ll5 ll6 (by decide) (by decide) (by decide) (a_cons (q_call (Wd.callee h.wd c_is_shape_prime g_is_shape_prime (by rfl)) (h.wd.room.mono (by omega)) h.cc.tk (a_cons (q_var v2) (a_cons (q_var v1) a_nil (by rfl)) (by rfl)) (len_cons (len_cons len_nil)).len (by rfl) (by rfl)) (a_cons (q_call (Wd.callee h.wd c_proth_paper g_proth_paper (by rfl)) (h.wd.room.mono (by omega)) h.cc.tk (a_cons (q_var v2) (a_cons (q_var v1) a_nil (by rfl)) (by rfl)) (len_cons (len_cons len_nil)).len (by rfl) (by rfl)) (a_cons (q_call (Wd.callee h.wd c_false_paper g_false_paper (by rfl)) (h.wd.room.mono (by omega)) h.cc.tk (a_cons (q_var v2) (a_cons (q_var v1) a_nil (by rfl)) (by rfl)) (len_cons (len_cons len_nil)).len (by rfl) (by rfl)) a_nil (by rfl)) (by rfl)) (by rfl)) (sw3 h.cc.kd ll4.loc ll5.loc ll6.loc (by decide +kernel) (by rfl) (by rfl) (by rfl) (by rfl) (by rfl)) (by rfl))
 (ss_cons (s_if (t_not (t_val (q_call (Wd.callee h.wd c__law_like g__law_like (by rfl)) (h.wd.room.mono (by omega)) h.cc.tk (a_cons (QF.qe (f_lst (a_cons (q_call (Wd.callee h.wd c_number_above g_number_above (by rfl)) (h.wd.room.mono (by omega)) h.cc.tk (a_cons (q_var v2) (a_cons (q_var v1) a_nil (by rfl)) (by rfl)) (len_cons (len_cons len_nil)).len (by rfl) (by rfl)) (a_cons (q_cmp opq_isN (by with_unfolding_all rfl) (q_rd v5) (QE.qr q_non)) (a_cons (q_cmp opq_is (by with_unfolding_all rfl) (q_rd v6) (QE.qr q_non)) (a_cons (q_call (Wd.callee h.wd c_shape_of g_shape_of (by rfl)) (h.wd.room.mono (by omega)) h.cc.tk (a_cons (q_var v3) a_nil (by rfl)) (len_cons len_nil).len (by rfl) (by rfl)) a_nil (by rfl)) (by rfl)) (by rfl)) (by rfl)))) (a_cons (QF.qe (f_lst (a_cons (q_var v3) (a_cons (q_var v4) (a_cons (q_var v4) (a_cons (q_tup (a_cons (q_var v2) (a_cons (q_var v1) a_nil (by rfl)) (by rfl))) a_nil (by rfl)) (by rfl)) (by rfl)) (by rfl)))) a_nil (by rfl)) (by rfl)) (len_cons (len_cons len_nil)).len (by rfl) (by rfl)) (fun _ => rfl)))
  (ss_one (s_ret q_bl))
  ss_nil)
 (ss_cons (s_if (t_w (w_or (t_w (w_and (t_cmp opq_isN (by with_unfolding_all rfl) (q_rd v5) (QE.qr q_non)) (w_and1 (t_cmp (opq_ne (h.wd).hu) (by with_unfolding_all rfl) (QE.qr (q_call (Wd.callee h.wd c__law_half g__law_half (by rfl)) (h.wd.room.mono (by omega)) h.cc.tk (a_cons (q_var v5) (a_cons (q_var v3) a_nil (by rfl)) (by rfl)) (len_cons (len_cons len_nil)).len (by rfl) (by rfl))) (QE.qr (q_op opq_sub (q_rd v3) (QE.qr q_int))))))) (w_or1 (t_w (w_and (t_cmp opq_isN (by with_unfolding_all rfl) (q_rd v6) (QE.qr q_non)) (w_and1 (t_not (t_val (q_call (Wd.callee h.wd c__law_is_false g__law_is_false (by rfl)) (h.wd.room.mono (by omega)) h.cc.tk (a_cons (q_var v6) (a_cons (q_var v3) a_nil (by rfl)) (by rfl)) (len_cons (len_cons len_nil)).len (by rfl) (by rfl)) (fun _ => rfl)))))))))
  (ss_one (s_ret q_bl))
  ss_nil)
 (ss_cons (s_set l4 (QF.qe (f_lst (a_cons (q_cmp (opq_eq (h.wd).hu) (by with_unfolding_all rfl) (QE.qr (q_call (Wd.callee h.wd c_fermat_number g_fermat_number (by rfl)) (h.wd.room.mono (by omega)) h.cc.tk (a_cons q_int a_nil (by rfl)) (len_cons len_nil).len (by rfl) (by rfl))) (QE.qr (q_call (Wd.callee h.wd c__law_above g__law_above (by rfl)) (h.wd.room.mono (by omega)) h.cc.tk (a_cons q_int (a_cons q_int a_nil (by rfl)) (by rfl)) (len_cons (len_cons len_nil)).len (by rfl) (by rfl)))) (a_cons (q_cmp (opq_eq (h.wd).hu) (by with_unfolding_all rfl) (QE.qr (q_call (Wd.callee h.wd c_pepin_rest g_pepin_rest (by rfl)) (h.wd.room.mono (by omega)) h.cc.tk (a_cons q_int a_nil (by rfl)) (len_cons len_nil).len (by rfl) (by rfl))) (QE.qr (q_op opq_sub (QE.qr (q_call (Wd.callee h.wd c_fermat_number g_fermat_number (by rfl)) (h.wd.room.mono (by omega)) h.cc.tk (a_cons q_int a_nil (by rfl)) (len_cons len_nil).len (by rfl) (by rfl))) (QE.qr q_int)))) (a_cons (q_ix (fun _ _ => rfl) (QE.qr (q_call (Wd.callee h.wd c_lucas_chain g_lucas_chain (by rfl)) (h.wd.room.mono (by omega)) h.cc.tk (a_cons q_int a_nil (by rfl)) (len_cons len_nil).len (by rfl) (by rfl))) (QE.qr (q_neg q_int))) a_nil (by rfl)) (by rfl)) (by rfl)))) (by rfl))
 (ss_cons (s_set l4 (q_op opq_add (q_rd v4) (QE.qr (QF.qe (f_lst (a_cons (q_cmp (opq_eq (h.wd).hu) (by with_unfolding_all rfl) (QE.qr (q_ix (fun _ _ => rfl) (QE.qr (q_call (Wd.callee h.wd c_lucas_chain g_lucas_chain (by rfl)) (h.wd.room.mono (by omega)) h.cc.tk (a_cons q_int a_nil (by rfl)) (len_cons len_nil).len (by rfl) (by rfl))) (QE.qr (q_neg q_int)))) (QE.qr q_int)) (a_cons (q_cb cq_len (h.wd.blt (T.free 81 (by rfl)) g_len) boot_len (by decide) (by rfl) (ar_cons (QE.qr (q_call (Wd.callee h.wd c_lucas_chain g_lucas_chain (by rfl)) (h.wd.room.mono (by omega)) h.cc.tk (a_cons q_int a_nil (by rfl)) (len_cons len_nil).len (by rfl) (by rfl))) ar_nil (by rfl)) (by rfl) (by rfl)) a_nil (by rfl)) (by rfl)))))) (by rfl))
 (ss_cons (s_if (t_not (t_val (q_call (Wd.callee h.wd c__law_like g__law_like (by rfl)) (h.wd.room.mono (by omega)) h.cc.tk (a_cons (q_var v4) (a_cons (QF.qe (f_lst (a_cons q_bl (a_cons q_bl (a_cons q_int (a_cons q_bl (a_cons q_int a_nil (by rfl)) (by rfl)) (by rfl)) (by rfl)) (by rfl)))) a_nil (by rfl)) (by rfl)) (len_cons (len_cons len_nil)).len (by rfl) (by rfl)) (fun _ => rfl)))
  (ss_one (s_ret q_bl))
  ss_nil)
 (ss_cons (s_set l4 (QF.qe (f_lst (a_cons (q_cmp (opq_eq (h.wd).hu) (by with_unfolding_all rfl) (QE.qr (q_call (Wd.callee h.wd c_half_rest g_half_rest (by rfl)) (h.wd.room.mono (by omega)) h.cc.tk (a_cons (q_op opq_sub (QE.qr (q_op opq_pow (QE.qr q_int) (QE.qr q_int))) (QE.qr q_int)) (a_cons (q_op opq_sub (QE.qr (q_op opq_pow (QE.qr q_int) (QE.qr q_int))) (QE.qr q_int)) a_nil (by rfl)) (by rfl)) (len_cons (len_cons len_nil)).len (by rfl) (by rfl))) (QE.qr (q_call (Wd.callee h.wd c__law_half g__law_half (by rfl)) (h.wd.room.mono (by omega)) h.cc.tk (a_cons (q_op opq_sub (QE.qr (q_op opq_pow (QE.qr q_int) (QE.qr q_int))) (QE.qr q_int)) (a_cons (q_op opq_sub (QE.qr (q_op opq_pow (QE.qr q_int) (QE.qr q_int))) (QE.qr q_int)) a_nil (by rfl)) (by rfl)) (len_cons (len_cons len_nil)).len (by rfl) (by rfl)))) (a_cons (q_ix (fun _ _ => rfl) (QE.qr (q_call (Wd.callee h.wd c_mersenne_primes_to g_mersenne_primes_to (by rfl)) (h.wd.room.mono (by omega)) h.cc.tk (a_cons q_int a_nil (by rfl)) (len_cons len_nil).len (by rfl) (by rfl))) (QE.qr (q_neg q_int))) a_nil (by rfl)) (by rfl)))) (by rfl))
 (ss_cons (s_set l4 (q_op opq_add (q_rd v4) (QE.qr (QF.qe (f_lst (a_cons (q_call (Wd.callee h.wd c_mersenne_divisor g_mersenne_divisor (by rfl)) (h.wd.room.mono (by omega)) h.cc.tk (a_cons q_int (a_cons q_int a_nil (by rfl)) (by rfl)) (len_cons (len_cons len_nil)).len (by rfl) (by rfl)) (a_cons (q_call (Wd.callee h.wd c_shape_of g_shape_of (by rfl)) (h.wd.room.mono (by omega)) h.cc.tk (a_cons (q_op opq_sub (QE.qr (q_op opq_pow (QE.qr q_int) (QE.qr q_int))) (QE.qr q_int)) a_nil (by rfl)) (len_cons len_nil).len (by rfl) (by rfl)) a_nil (by rfl)) (by rfl)))))) (by rfl))
 (ss_one (s_ret (q_call (Wd.callee h.wd c__law_like g__law_like (by rfl)) (h.wd.room.mono (by omega)) h.cc.tk (a_cons (q_var v4) (a_cons (QF.qe (f_lst (a_cons q_bl (a_cons q_int (a_cons q_int (a_cons q_non a_nil (by rfl)) (by rfl)) (by rfl)) (by rfl)))) a_nil (by rfl)) (by rfl)) (len_cons (len_cons len_nil)).len (by rfl) (by rfl)))))))))))))))

theorem sc_law : FnScope N_law ["script"] (defScope s_law) := ⟨rfl, rfl, rfl, by decide +kernel, rfl, by decide +kernel, by decide +kernel⟩
theorem der_law {P : Program} {w : World} {K : PySem.W.Frag} {mg : Str → Option Value} {base : Heap} (T : HdL exL tfL fa fn K mg base) (c__law_cup : CalleeK P w K mg base "_law_cup" 1 1 m__law_cup) (c__law_some : CalleeK P w K mg base "_law_some" 2 2 m__law_some) (c__law_shapes_right : CalleeK P w K mg base "_law_shapes_right" 8 1 m__law_shapes_right) (c__law_numbers_right : CalleeK P w K mg base "_law_numbers_right" 8 1 m__law_numbers_right) (c__law_great_right : CalleeK P w K mg base "_law_great_right" 10 1 m__law_great_right) {X : Cx} {B : Gr} {W : WX} (h : Bd X W P w K mg base 10 N_law (defScope s_law)) : QSs X B W (defBody s_law) f_law := by
  have v0 := h.vr (i := 0) (x := "script") (by rfl) (by decide +kernel)
  have v1 := h.vr (i := 1) (x := "cup") (by rfl) (by decide +kernel)
  have v2 := h.vr (i := 2) (x := "odd") (by rfl) (by decide +kernel)
  have l1 := h.lr (i := 1) (x := "cup") (by rfl) (by decide +kernel)
  have l2 := h.lr (i := 2) (x := "odd") (by rfl) (by decide +kernel)
  have g__law_cup := h.gl (x := "_law_cup") (by decide +kernel)
  have g__law_great_right := h.gl (x := "_law_great_right") (by decide +kernel)
  have g__law_numbers_right := h.gl (x := "_law_numbers_right") (by decide +kernel)
  have g__law_shapes_right := h.gl (x := "_law_shapes_right") (by decide +kernel)
  have g__law_some := h.gl (x := "_law_some") (by decide +kernel)
  exact (ss_cons (s_set l1 (q_call (Wd.callee h.wd c__law_cup g__law_cup (by rfl)) (h.wd.room.mono (by omega)) h.cc.tk (a_cons (q_var v0) a_nil (by rfl)) (len_cons len_nil).len (by rfl) (by rfl)) (by rfl))
 (ss_cons (s_set l2 (q_call (Wd.callee h.wd c__law_some g__law_some (by rfl)) (h.wd.room.mono (by omega)) h.cc.tk (a_cons (q_var v1) (a_cons (QF.qe (f_lst (a_cons q_non (a_cons q_str (a_cons (QF.qe (f_lst a_nil)) (a_cons q_bl (a_cons (q_tup (a_cons q_non a_nil (by rfl))) (a_cons (q_neg q_int) a_nil (by rfl)) (by rfl)) (by rfl)) (by rfl)) (by rfl)) (by rfl)))) a_nil (by rfl)) (by rfl)) (len_cons (len_cons len_nil)).len (by rfl) (by rfl)) (by rfl))
 (ss_cons (s_if (t_w (w_or (t_not (t_val (q_call (Wd.callee h.wd c__law_shapes_right g__law_shapes_right (by rfl)) (h.wd.room.mono (by omega)) h.cc.tk (a_cons (q_var v2) a_nil (by rfl)) (len_cons len_nil).len (by rfl) (by rfl)) (fun _ => rfl))) (w_or1 (t_not (t_val (q_call (Wd.callee h.wd c__law_numbers_right g__law_numbers_right (by rfl)) (h.wd.room.mono (by omega)) h.cc.tk (a_cons (q_var v2) a_nil (by rfl)) (len_cons len_nil).len (by rfl) (by rfl)) (fun _ => rfl))))))
  (ss_one (s_ret q_bl))
  ss_nil)
 (ss_one (s_ret (q_call (Wd.callee h.wd c__law_great_right g__law_great_right (by rfl)) (h.wd.room.mono (by omega)) h.cc.tk (a_cons (q_var v1) a_nil (by rfl)) (len_cons len_nil).len (by rfl) (by rfl)))))))

theorem ok_is_integer {P : Program} {w : World} {K : PySem.W.Frag} {mg : Str → Option Value} {base : Heap} (T : HdL exL tfL fa fn K mg base) : CalleeK P w K mg base "is_integer" 1 1 m_is_integer :=
  T.callee 0 0 (by rfl) (by rfl) sc_is_integer rfl (fun _ _ _ _ _ _ us hl => match us, hl with | [_], _ => rfl) (fun X B W h => der_is_integer T h) (fun ds S _ _ => ⟨fuel, rfl⟩)

theorem ok_is_whole {P : Program} {w : World} {K : PySem.W.Frag} {mg : Str → Option Value} {base : Heap} (T : HdL exL tfL fa fn K mg base) : CalleeK P w K mg base "is_whole" 2 3 m_is_whole :=
  T.callee 1 1 (by rfl) (by rfl) sc_is_whole rfl (fun _ _ _ _ _ _ us hl => match us, hl with | [_, _, _], _ => rfl) (fun X B W h => der_is_whole T (ok_is_integer T) h) (fun ds S _ _ => ⟨fuel, rfl⟩)

theorem ok_need_whole {P : Program} {w : World} {K : PySem.W.Frag} {mg : Str → Option Value} {base : Heap} (T : HdL exL tfL fa fn K mg base) : CalleeK P w K mg base "need_whole" 3 3 m_need_whole :=
  T.callee 2 2 (by rfl) (by rfl) sc_need_whole rfl (fun _ _ _ _ _ _ us hl => match us, hl with | [_, _, _], _ => rfl) (fun X B W h => der_need_whole T (ok_is_whole T) h) (fun ds S _ _ => ⟨fuel, rfl⟩)

theorem ok_least_factor {P : Program} {w : World} {K : PySem.W.Frag} {mg : Str → Option Value} {base : Heap} (T : HdL exL tfL fa fn K mg base) : CalleeK P w K mg base "least_factor" 1 1 m_least_factor :=
  T.callee 3 3 (by rfl) (by rfl) sc_least_factor rfl (fun _ _ _ _ _ _ us hl => match us, hl with | [_], _ => rfl) (fun X B W h => der_least_factor T h) (fun ds S _ _ => ⟨fuel, rfl⟩)

theorem ok_is_prime_in {P : Program} {w : World} {K : PySem.W.Frag} {mg : Str → Option Value} {base : Heap} (T : HdL exL tfL fa fn K mg base) : CalleeK P w K mg base "is_prime_in" 2 1 m_is_prime_in :=
  T.callee 4 4 (by rfl) (by rfl) sc_is_prime_in rfl (fun _ _ _ _ _ _ us hl => match us, hl with | [_], _ => rfl) (fun X B W h => der_is_prime_in T (ok_least_factor T) h) (fun ds S _ _ => ⟨fuel, rfl⟩)

theorem ok_power_in {P : Program} {w : World} {K : PySem.W.Frag} {mg : Str → Option Value} {base : Heap} (T : HdL exL tfL fa fn K mg base) : CalleeK P w K mg base "power_in" 1 3 m_power_in :=
  T.callee 5 5 (by rfl) (by rfl) sc_power_in rfl (fun _ _ _ _ _ _ us hl => match us, hl with | [_, _, _], _ => rfl) (fun X B W h => der_power_in T h) (fun ds S _ _ => ⟨fuel, rfl⟩)

theorem ok_sign_in {P : Program} {w : World} {K : PySem.W.Frag} {mg : Str → Option Value} {base : Heap} (T : HdL exL tfL fa fn K mg base) : CalleeK P w K mg base "sign_in" 1 2 m_sign_in :=
  T.callee 6 6 (by rfl) (by rfl) sc_sign_in rfl (fun _ _ _ _ _ _ us hl => match us, hl with | [_, _], _ => rfl) (fun X B W h => der_sign_in T h) (fun ds S _ _ => ⟨fuel, rfl⟩)

theorem ok_above_in {P : Program} {w : World} {K : PySem.W.Frag} {mg : Str → Option Value} {base : Heap} (T : HdL exL tfL fa fn K mg base) : CalleeK P w K mg base "above_in" 1 2 m_above_in :=
  T.callee 7 7 (by rfl) (by rfl) sc_above_in rfl (fun _ _ _ _ _ _ us hl => match us, hl with | [_, _], _ => rfl) (fun X B W h => der_above_in T h) (fun ds S _ _ => ⟨fuel, rfl⟩)

theorem ok_fits_two_shape {P : Program} {w : World} {K : PySem.W.Frag} {mg : Str → Option Value} {base : Heap} (T : HdL exL tfL fa fn K mg base) : CalleeK P w K mg base "fits_two_shape" 3 2 m_fits_two_shape :=
  T.callee 8 8 (by rfl) (by rfl) sc_fits_two_shape rfl (fun _ _ _ _ _ _ us hl => match us, hl with | [_, _], _ => rfl) (fun X B W h => der_fits_two_shape T (ok_is_whole T) (ok_above_in T) h) (fun ds S _ _ => ⟨fuel, rfl⟩)

theorem ok_need_two_shape {P : Program} {w : World} {K : PySem.W.Frag} {mg : Str → Option Value} {base : Heap} (T : HdL exL tfL fa fn K mg base) : CalleeK P w K mg base "need_two_shape" 4 2 m_need_two_shape :=
  T.callee 9 9 (by rfl) (by rfl) sc_need_two_shape rfl (fun _ _ _ _ _ _ us hl => match us, hl with | [_, _], _ => rfl) (fun X B W h => der_need_two_shape T (ok_fits_two_shape T) h) (fun ds S _ _ => ⟨fuel, rfl⟩)

theorem ok_shape_in {P : Program} {w : World} {K : PySem.W.Frag} {mg : Str → Option Value} {base : Heap} (T : HdL exL tfL fa fn K mg base) : CalleeK P w K mg base "shape_in" 1 1 m_shape_in :=
  T.callee 10 10 (by rfl) (by rfl) sc_shape_in rfl (fun _ _ _ _ _ _ us hl => match us, hl with | [_], _ => rfl) (fun X B W h => der_shape_in T h) (fun ds S _ _ => ⟨fuel, rfl⟩)

theorem ok_half_in {P : Program} {w : World} {K : PySem.W.Frag} {mg : Str → Option Value} {base : Heap} (T : HdL exL tfL fa fn K mg base) : CalleeK P w K mg base "half_in" 2 2 m_half_in :=
  T.callee 11 11 (by rfl) (by rfl) sc_half_in rfl (fun _ _ _ _ _ _ us hl => match us, hl with | [_, _], _ => rfl) (fun X B W h => der_half_in T (ok_power_in T) h) (fun ds S _ _ => ⟨fuel, rfl⟩)

theorem ok_is_square_number {P : Program} {w : World} {K : PySem.W.Frag} {mg : Str → Option Value} {base : Heap} (T : HdL exL tfL fa fn K mg base) : CalleeK P w K mg base "is_square_number" 1 1 m_is_square_number :=
  T.callee 12 12 (by rfl) (by rfl) sc_is_square_number rfl (fun _ _ _ _ _ _ us hl => match us, hl with | [_], _ => rfl) (fun X B W h => der_is_square_number T h) (fun ds S _ _ => ⟨fuel, rfl⟩)

theorem ok_paper_base {P : Program} {w : World} {K : PySem.W.Frag} {mg : Str → Option Value} {base : Heap} (T : HdL exL tfL fa fn K mg base) : CalleeK P w K mg base "paper_base" 2 1 m_paper_base :=
  T.callee 13 13 (by rfl) (by rfl) sc_paper_base rfl (fun _ _ _ _ _ _ us hl => match us, hl with | [_], _ => rfl) (fun X B W h => der_paper_base T (ok_sign_in T) h) (fun ds S _ _ => ⟨fuel, rfl⟩)

theorem ok_is_prime_above {P : Program} {w : World} {K : PySem.W.Frag} {mg : Str → Option Value} {base : Heap} (T : HdL exL tfL fa fn K mg base) : CalleeK P w K mg base "is_prime_above" 3 1 m_is_prime_above :=
  T.callee 14 14 (by rfl) (by rfl) sc_is_prime_above rfl (fun _ _ _ _ _ _ us hl => match us, hl with | [_], _ => rfl) (fun X B W h => der_is_prime_above T (ok_is_square_number T) (ok_paper_base T) (ok_half_in T) h) (fun ds S _ _ => ⟨fuel, rfl⟩)

theorem ok_is_false_in {P : Program} {w : World} {K : PySem.W.Frag} {mg : Str → Option Value} {base : Heap} (T : HdL exL tfL fa fn K mg base) : CalleeK P w K mg base "is_false_in" 3 2 m_is_false_in :=
  T.callee 15 15 (by rfl) (by rfl) sc_is_false_in rfl (fun _ _ _ _ _ _ us hl => match us, hl with | [_, _], _ => rfl) (fun X B W h => der_is_false_in T (ok_sign_in T) (ok_half_in T) h) (fun ds S _ _ => ⟨fuel, rfl⟩)

theorem ok_is_odd_great {P : Program} {w : World} {K : PySem.W.Frag} {mg : Str → Option Value} {base : Heap} (T : HdL exL tfL fa fn K mg base) : CalleeK P w K mg base "is_odd_great" 3 1 m_is_odd_great :=
  T.callee 16 16 (by rfl) (by rfl) sc_is_odd_great rfl (fun _ _ _ _ _ _ us hl => match us, hl with | [_], _ => rfl) (fun X B W h => der_is_odd_great T (ok_is_whole T) h) (fun ds S _ _ => ⟨fuel, rfl⟩)

theorem ok_is_base_to {P : Program} {w : World} {K : PySem.W.Frag} {mg : Str → Option Value} {base : Heap} (T : HdL exL tfL fa fn K mg base) : CalleeK P w K mg base "is_base_to" 2 2 m_is_base_to :=
  T.callee 17 17 (by rfl) (by rfl) sc_is_base_to rfl (fun _ _ _ _ _ _ us hl => match us, hl with | [_, _], _ => rfl) (fun X B W h => der_is_base_to T (ok_is_integer T) h) (fun ds S _ _ => ⟨fuel, rfl⟩)

theorem ok_is_two_shape {P : Program} {w : World} {K : PySem.W.Frag} {mg : Str → Option Value} {base : Heap} (T : HdL exL tfL fa fn K mg base) : CalleeK P w K mg base "is_two_shape" 4 2 m_is_two_shape :=
  T.callee 18 18 (by rfl) (by rfl) sc_is_two_shape rfl (fun _ _ _ _ _ _ us hl => match us, hl with | [_, _], _ => rfl) (fun X B W h => der_is_two_shape T (ok_fits_two_shape T) h) (fun ds S _ _ => ⟨fuel, rfl⟩)

theorem ok_number_above {P : Program} {w : World} {K : PySem.W.Frag} {mg : Str → Option Value} {base : Heap} (T : HdL exL tfL fa fn K mg base) : CalleeK P w K mg base "number_above" 5 2 m_number_above :=
  T.callee 19 19 (by rfl) (by rfl) sc_number_above rfl (fun _ _ _ _ _ _ us hl => match us, hl with | [_, _], _ => rfl) (fun X B W h => der_number_above T (ok_need_two_shape T) (ok_above_in T) h) (fun ds S _ _ => ⟨fuel, rfl⟩)

theorem ok_shape_of {P : Program} {w : World} {K : PySem.W.Frag} {mg : Str → Option Value} {base : Heap} (T : HdL exL tfL fa fn K mg base) : CalleeK P w K mg base "shape_of" 4 1 m_shape_of :=
  T.callee 20 20 (by rfl) (by rfl) sc_shape_of rfl (fun _ _ _ _ _ _ us hl => match us, hl with | [_], _ => rfl) (fun X B W h => der_shape_of T (ok_is_odd_great T) (ok_shape_in T) (ok_fits_two_shape T) h) (fun ds S _ _ => ⟨fuel, rfl⟩)

theorem ok_half_rest {P : Program} {w : World} {K : PySem.W.Frag} {mg : Str → Option Value} {base : Heap} (T : HdL exL tfL fa fn K mg base) : CalleeK P w K mg base "half_rest" 4 2 m_half_rest :=
  T.callee 21 21 (by rfl) (by rfl) sc_half_rest rfl (fun _ _ _ _ _ _ us hl => match us, hl with | [_, _], _ => rfl) (fun X B W h => der_half_rest T (ok_is_whole T) (ok_is_odd_great T) (ok_half_in T) h) (fun ds S _ _ => ⟨fuel, rfl⟩)

theorem ok_is_shape_prime {P : Program} {w : World} {K : PySem.W.Frag} {mg : Str → Option Value} {base : Heap} (T : HdL exL tfL fa fn K mg base) : CalleeK P w K mg base "is_shape_prime" 5 2 m_is_shape_prime :=
  T.callee 22 22 (by rfl) (by rfl) sc_is_shape_prime rfl (fun _ _ _ _ _ _ us hl => match us, hl with | [_, _], _ => rfl) (fun X B W h => der_is_shape_prime T (ok_need_two_shape T) (ok_above_in T) (ok_is_prime_above T) h) (fun ds S _ _ => ⟨fuel, rfl⟩)

theorem ok_proth_paper {P : Program} {w : World} {K : PySem.W.Frag} {mg : Str → Option Value} {base : Heap} (T : HdL exL tfL fa fn K mg base) : CalleeK P w K mg base "proth_paper" 5 2 m_proth_paper :=
  T.callee 23 23 (by rfl) (by rfl) sc_proth_paper rfl (fun _ _ _ _ _ _ us hl => match us, hl with | [_, _], _ => rfl) (fun X B W h => der_proth_paper T (ok_need_two_shape T) (ok_above_in T) (ok_is_prime_above T) (ok_paper_base T) h) (fun ds S _ _ => ⟨fuel, rfl⟩)

theorem ok_is_proth_paper {P : Program} {w : World} {K : PySem.W.Frag} {mg : Str → Option Value} {base : Heap} (T : HdL exL tfL fa fn K mg base) : CalleeK P w K mg base "is_proth_paper" 5 3 m_is_proth_paper :=
  T.callee 24 24 (by rfl) (by rfl) sc_is_proth_paper rfl (fun _ _ _ _ _ _ us hl => match us, hl with | [_, _, _], _ => rfl) (fun X B W h => der_is_proth_paper T (ok_need_two_shape T) (ok_above_in T) (ok_is_base_to T) (ok_half_in T) h) (fun ds S _ _ => ⟨fuel, rfl⟩)

theorem ok_false_paper {P : Program} {w : World} {K : PySem.W.Frag} {mg : Str → Option Value} {base : Heap} (T : HdL exL tfL fa fn K mg base) : CalleeK P w K mg base "false_paper" 5 2 m_false_paper :=
  T.callee 25 25 (by rfl) (by rfl) sc_false_paper rfl (fun _ _ _ _ _ _ us hl => match us, hl with | [_, _], _ => rfl) (fun X B W h => der_false_paper T (ok_need_two_shape T) (ok_above_in T) (ok_is_prime_above T) (ok_is_false_in T) h) (fun ds S _ _ => ⟨fuel, rfl⟩)

theorem ok_is_false_paper {P : Program} {w : World} {K : PySem.W.Frag} {mg : Str → Option Value} {base : Heap} (T : HdL exL tfL fa fn K mg base) : CalleeK P w K mg base "is_false_paper" 5 3 m_is_false_paper :=
  T.callee 26 26 (by rfl) (by rfl) sc_is_false_paper rfl (fun _ _ _ _ _ _ us hl => match us, hl with | [_, _, _], _ => rfl) (fun X B W h => der_is_false_paper T (ok_need_two_shape T) (ok_above_in T) (ok_is_base_to T) (ok_is_false_in T) h) (fun ds S _ _ => ⟨fuel, rfl⟩)

theorem ok_prime_fronts {P : Program} {w : World} {K : PySem.W.Frag} {mg : Str → Option Value} {base : Heap} (T : HdL exL tfL fa fn K mg base) : CalleeK P w K mg base "prime_fronts" 4 2 m_prime_fronts :=
  T.callee 27 27 (by rfl) (by rfl) sc_prime_fronts rfl (fun _ _ _ _ _ _ us hl => match us, hl with | [_, _], _ => rfl) (fun X B W h => der_prime_fronts T (ok_need_whole T) (ok_fits_two_shape T) (ok_above_in T) (ok_is_prime_above T) h) (fun ds S _ _ => ⟨fuel, rfl⟩)

theorem ok_fermat_in {P : Program} {w : World} {K : PySem.W.Frag} {mg : Str → Option Value} {base : Heap} (T : HdL exL tfL fa fn K mg base) : CalleeK P w K mg base "fermat_in" 2 1 m_fermat_in :=
  T.callee 28 28 (by rfl) (by rfl) sc_fermat_in rfl (fun _ _ _ _ _ _ us hl => match us, hl with | [_], _ => rfl) (fun X B W h => der_fermat_in T (ok_above_in T) h) (fun ds S _ _ => ⟨fuel, rfl⟩)

theorem ok_need_order {P : Program} {w : World} {K : PySem.W.Frag} {mg : Str → Option Value} {base : Heap} (T : HdL exL tfL fa fn K mg base) : CalleeK P w K mg base "need_order" 3 2 m_need_order :=
  T.callee 29 29 (by rfl) (by rfl) sc_need_order rfl (fun _ _ _ _ _ _ us hl => match us, hl with | [_, _], _ => rfl) (fun X B W h => der_need_order T (ok_is_whole T) h) (fun ds S _ _ => ⟨fuel, rfl⟩)

theorem ok_least_divisor_by {P : Program} {w : World} {K : PySem.W.Frag} {mg : Str → Option Value} {base : Heap} (T : HdL exL tfL fa fn K mg base) : CalleeK P w K mg base "least_divisor_by" 1 4 m_least_divisor_by :=
  T.callee 30 30 (by rfl) (by rfl) sc_least_divisor_by rfl (fun _ _ _ _ _ _ us hl => match us, hl with | [_, _, _, _], _ => rfl) (fun X B W h => der_least_divisor_by T h) (fun ds S _ _ => ⟨fuel, rfl⟩)

theorem ok_fermat_number {P : Program} {w : World} {K : PySem.W.Frag} {mg : Str → Option Value} {base : Heap} (T : HdL exL tfL fa fn K mg base) : CalleeK P w K mg base "fermat_number" 4 1 m_fermat_number :=
  T.callee 31 31 (by rfl) (by rfl) sc_fermat_number rfl (fun _ _ _ _ _ _ us hl => match us, hl with | [_], _ => rfl) (fun X B W h => der_fermat_number T (ok_need_order T) (ok_fermat_in T) h) (fun ds S _ _ => ⟨fuel, rfl⟩)

theorem ok_pepin_rest {P : Program} {w : World} {K : PySem.W.Frag} {mg : Str → Option Value} {base : Heap} (T : HdL exL tfL fa fn K mg base) : CalleeK P w K mg base "pepin_rest" 4 1 m_pepin_rest :=
  T.callee 32 32 (by rfl) (by rfl) sc_pepin_rest rfl (fun _ _ _ _ _ _ us hl => match us, hl with | [_], _ => rfl) (fun X B W h => der_pepin_rest T (ok_need_order T) (ok_fermat_in T) (ok_half_in T) h) (fun ds S _ _ => ⟨fuel, rfl⟩)

theorem ok_is_fermat_prime {P : Program} {w : World} {K : PySem.W.Frag} {mg : Str → Option Value} {base : Heap} (T : HdL exL tfL fa fn K mg base) : CalleeK P w K mg base "is_fermat_prime" 4 1 m_is_fermat_prime :=
  T.callee 33 33 (by rfl) (by rfl) sc_is_fermat_prime rfl (fun _ _ _ _ _ _ us hl => match us, hl with | [_], _ => rfl) (fun X B W h => der_is_fermat_prime T (ok_need_order T) (ok_fermat_in T) (ok_half_in T) h) (fun ds S _ _ => ⟨fuel, rfl⟩)

theorem ok_fermat_divisor {P : Program} {w : World} {K : PySem.W.Frag} {mg : Str → Option Value} {base : Heap} (T : HdL exL tfL fa fn K mg base) : CalleeK P w K mg base "fermat_divisor" 4 2 m_fermat_divisor :=
  T.callee 34 34 (by rfl) (by rfl) sc_fermat_divisor rfl (fun _ _ _ _ _ _ us hl => match us, hl with | [_, _], _ => rfl) (fun X B W h => der_fermat_divisor T (ok_need_order T) (ok_need_whole T) (ok_fermat_in T) (ok_least_divisor_by T) h) (fun ds S _ _ => ⟨fuel, rfl⟩)

theorem ok_mersenne_in {P : Program} {w : World} {K : PySem.W.Frag} {mg : Str → Option Value} {base : Heap} (T : HdL exL tfL fa fn K mg base) : CalleeK P w K mg base "mersenne_in" 1 1 m_mersenne_in :=
  T.callee 35 35 (by rfl) (by rfl) sc_mersenne_in rfl (fun _ _ _ _ _ _ us hl => match us, hl with | [_], _ => rfl) (fun X B W h => der_mersenne_in T h) (fun ds S _ _ => ⟨fuel, rfl⟩)

theorem ok_chain_in {P : Program} {w : World} {K : PySem.W.Frag} {mg : Str → Option Value} {base : Heap} (T : HdL exL tfL fa fn K mg base) : CalleeK P w K mg base "chain_in" 2 1 m_chain_in :=
  T.callee 36 36 (by rfl) (by rfl) sc_chain_in rfl (fun _ _ _ _ _ _ us hl => match us, hl with | [_], _ => rfl) (fun X B W h => der_chain_in T (ok_mersenne_in T) h) (fun ds S _ _ => ⟨fuel, rfl⟩)

theorem ok_need_chained {P : Program} {w : World} {K : PySem.W.Frag} {mg : Str → Option Value} {base : Heap} (T : HdL exL tfL fa fn K mg base) : CalleeK P w K mg base "need_chained" 3 1 m_need_chained :=
  T.callee 37 37 (by rfl) (by rfl) sc_need_chained rfl (fun _ _ _ _ _ _ us hl => match us, hl with | [_], _ => rfl) (fun X B W h => der_need_chained T (ok_is_whole T) (ok_is_prime_in T) h) (fun ds S _ _ => ⟨fuel, rfl⟩)

theorem ok_mersenne_number {P : Program} {w : World} {K : PySem.W.Frag} {mg : Str → Option Value} {base : Heap} (T : HdL exL tfL fa fn K mg base) : CalleeK P w K mg base "mersenne_number" 4 1 m_mersenne_number :=
  T.callee 38 38 (by rfl) (by rfl) sc_mersenne_number rfl (fun _ _ _ _ _ _ us hl => match us, hl with | [_], _ => rfl) (fun X B W h => der_mersenne_number T (ok_need_chained T) (ok_mersenne_in T) h) (fun ds S _ _ => ⟨fuel, rfl⟩)

theorem ok_lucas_chain {P : Program} {w : World} {K : PySem.W.Frag} {mg : Str → Option Value} {base : Heap} (T : HdL exL tfL fa fn K mg base) : CalleeK P w K mg base "lucas_chain" 4 1 m_lucas_chain :=
  T.callee 39 39 (by rfl) (by rfl) sc_lucas_chain rfl (fun _ _ _ _ _ _ us hl => match us, hl with | [_], _ => rfl) (fun X B W h => der_lucas_chain T (ok_need_chained T) (ok_chain_in T) h) (fun ds S _ _ => ⟨fuel, rfl⟩)

theorem ok_is_mersenne_prime {P : Program} {w : World} {K : PySem.W.Frag} {mg : Str → Option Value} {base : Heap} (T : HdL exL tfL fa fn K mg base) : CalleeK P w K mg base "is_mersenne_prime" 4 1 m_is_mersenne_prime :=
  T.callee 40 40 (by rfl) (by rfl) sc_is_mersenne_prime rfl (fun _ _ _ _ _ _ us hl => match us, hl with | [_], _ => rfl) (fun X B W h => der_is_mersenne_prime T (ok_need_chained T) (ok_chain_in T) h) (fun ds S _ _ => ⟨fuel, rfl⟩)

theorem ok_mersenne_primes_to {P : Program} {w : World} {K : PySem.W.Frag} {mg : Str → Option Value} {base : Heap} (T : HdL exL tfL fa fn K mg base) : CalleeK P w K mg base "mersenne_primes_to" 4 1 m_mersenne_primes_to :=
  T.callee 41 41 (by rfl) (by rfl) sc_mersenne_primes_to rfl (fun _ _ _ _ _ _ us hl => match us, hl with | [_], _ => rfl) (fun X B W h => der_mersenne_primes_to T (ok_need_whole T) (ok_is_prime_in T) (ok_chain_in T) h) (fun ds S _ _ => ⟨fuel, rfl⟩)

theorem ok_mersenne_divisor {P : Program} {w : World} {K : PySem.W.Frag} {mg : Str → Option Value} {base : Heap} (T : HdL exL tfL fa fn K mg base) : CalleeK P w K mg base "mersenne_divisor" 4 2 m_mersenne_divisor :=
  T.callee 42 42 (by rfl) (by rfl) sc_mersenne_divisor rfl (fun _ _ _ _ _ _ us hl => match us, hl with | [_, _], _ => rfl) (fun X B W h => der_mersenne_divisor T (ok_need_chained T) (ok_need_whole T) (ok_mersenne_in T) (ok_least_divisor_by T) h) (fun ds S _ _ => ⟨fuel, rfl⟩)

theorem ok__law_cup {P : Program} {w : World} {K : PySem.W.Frag} {mg : Str → Option Value} {base : Heap} (T : HdL exL tfL fa fn K mg base) : CalleeK P w K mg base "_law_cup" 1 1 m__law_cup :=
  T.callee 43 43 (by rfl) (by rfl) sc__law_cup rfl (fun _ _ _ _ _ _ us hl => match us, hl with | [_], _ => rfl) (fun X B W h => der__law_cup T h) (fun ds S _ _ => ⟨fuel, rfl⟩)

theorem ok__law_roll {P : Program} {w : World} {K : PySem.W.Frag} {mg : Str → Option Value} {base : Heap} (T : HdL exL tfL fa fn K mg base) : CalleeK P w K mg base "_law_roll" 1 2 m__law_roll :=
  T.callee 44 44 (by rfl) (by rfl) sc__law_roll rfl (fun _ _ _ _ _ _ us hl => match us, hl with | [_, _], _ => rfl) (fun X B W h => der__law_roll T h) (fun ds S _ _ => ⟨fuel, rfl⟩)

theorem ok__law_some {P : Program} {w : World} {K : PySem.W.Frag} {mg : Str → Option Value} {base : Heap} (T : HdL exL tfL fa fn K mg base) : CalleeK P w K mg base "_law_some" 2 2 m__law_some :=
  T.callee 45 45 (by rfl) (by rfl) sc__law_some rfl (fun _ _ _ _ _ _ us hl => match us, hl with | [_, _], _ => rfl) (fun X B W h => der__law_some T (ok__law_roll T) h) (fun ds S _ _ => ⟨fuel, rfl⟩)

theorem ok__law_sort {P : Program} {w : World} {K : PySem.W.Frag} {mg : Str → Option Value} {base : Heap} (T : HdL exL tfL fa fn K mg base) : CalleeK P w K mg base "_law_sort" 1 1 m__law_sort :=
  T.callee 46 46 (by rfl) (by rfl) sc__law_sort rfl (fun _ _ _ _ _ _ us hl => match us, hl with | [_], _ => rfl) (fun X B W h => der__law_sort T h) (fun ds S _ _ => ⟨fuel, rfl⟩)

theorem okr__law_like {P : Program} {w : World} {K : PySem.W.Frag} {mg : Str → Option Value} {base : Heap} (T : HdL exL tfL fa fn K mg base) : ∀ k : Nat, CalleeK P w K mg base "_law_like" (1 + k) 2 (mk__law_like k)
  | 0 => T.callee0 47 47 (by rfl) (by rfl) sc__law_like rfl (fun _ _ _ _ _ _ us hl => match us, hl with | [_, _], _ => rfl)
  | k + 1 => T.callee 47 47 (by rfl) (by rfl) sc__law_like rfl (fun _ _ _ _ _ _ us hl => match us, hl with | [_, _], _ => rfl) (fun X B W h => der__law_like T (ok__law_sort T) (Nat.le_add_right _ _) (okr__law_like T k) h) (fun ds S _ _ => ⟨fuel, rfl⟩)
theorem ok__law_like {P : Program} {w : World} {K : PySem.W.Frag} {mg : Str → Option Value} {base : Heap} (T : HdL exL tfL fa fn K mg base) : CalleeK P w K mg base "_law_like" 9 2 m__law_like := okr__law_like T 8

theorem ok__law_power {P : Program} {w : World} {K : PySem.W.Frag} {mg : Str → Option Value} {base : Heap} (T : HdL exL tfL fa fn K mg base) : CalleeK P w K mg base "_law_power" 1 3 m__law_power :=
  T.callee 48 48 (by rfl) (by rfl) sc__law_power rfl (fun _ _ _ _ _ _ us hl => match us, hl with | [_, _, _], _ => rfl) (fun X B W h => der__law_power T h) (fun ds S _ _ => ⟨fuel, rfl⟩)

theorem ok__law_above {P : Program} {w : World} {K : PySem.W.Frag} {mg : Str → Option Value} {base : Heap} (T : HdL exL tfL fa fn K mg base) : CalleeK P w K mg base "_law_above" 1 2 m__law_above :=
  T.callee 49 49 (by rfl) (by rfl) sc__law_above rfl (fun _ _ _ _ _ _ us hl => match us, hl with | [_, _], _ => rfl) (fun X B W h => der__law_above T h) (fun ds S _ _ => ⟨fuel, rfl⟩)

theorem ok__law_sign {P : Program} {w : World} {K : PySem.W.Frag} {mg : Str → Option Value} {base : Heap} (T : HdL exL tfL fa fn K mg base) : CalleeK P w K mg base "_law_sign" 1 2 m__law_sign :=
  T.callee 50 50 (by rfl) (by rfl) sc__law_sign rfl (fun _ _ _ _ _ _ us hl => match us, hl with | [_, _], _ => rfl) (fun X B W h => der__law_sign T h) (fun ds S _ _ => ⟨fuel, rfl⟩)

theorem ok__law_half {P : Program} {w : World} {K : PySem.W.Frag} {mg : Str → Option Value} {base : Heap} (T : HdL exL tfL fa fn K mg base) : CalleeK P w K mg base "_law_half" 2 2 m__law_half :=
  T.callee 51 51 (by rfl) (by rfl) sc__law_half rfl (fun _ _ _ _ _ _ us hl => match us, hl with | [_, _], _ => rfl) (fun X B W h => der__law_half T (ok__law_power T) h) (fun ds S _ _ => ⟨fuel, rfl⟩)

theorem ok__law_is_false {P : Program} {w : World} {K : PySem.W.Frag} {mg : Str → Option Value} {base : Heap} (T : HdL exL tfL fa fn K mg base) : CalleeK P w K mg base "_law_is_false" 3 2 m__law_is_false :=
  T.callee 52 52 (by rfl) (by rfl) sc__law_is_false rfl (fun _ _ _ _ _ _ us hl => match us, hl with | [_, _], _ => rfl) (fun X B W h => der__law_is_false T (ok__law_sign T) (ok__law_half T) h) (fun ds S _ _ => ⟨fuel, rfl⟩)


theorem ok__law_shapes_right {P : Program} {w : World} {K : PySem.W.Frag} {mg : Str → Option Value} {base : Heap} (T : HdL exL tfL fa fn K mg base) : CalleeK P w K mg base "_law_shapes_right" 8 1 m__law_shapes_right :=
  T.calleeL 54 54 (by rfl) (by rfl) sc__law_shapes_right rfl (fun _ _ _ _ _ _ us hl => match us, hl with | [_], _ => rfl) (fun X B W h hmk => der__law_shapes_right T (lf__law_error T) (ok_is_mersenne_prime T) (ok_lucas_chain T) (ok_mersenne_number T) (ok_is_fermat_prime T) (ok_pepin_rest T) (ok_fermat_number T) (ok_is_false_paper T) (ok_false_paper T) (ok_is_proth_paper T) (ok_proth_paper T) (ok_is_shape_prime T) (ok_number_above T) (ok_is_two_shape T) (ok_half_rest T) (ok_shape_of T) h hmk) (fun ds S _ _ => ⟨fuel, rfl⟩)

theorem ok__law_numbers_right {P : Program} {w : World} {K : PySem.W.Frag} {mg : Str → Option Value} {base : Heap} (T : HdL exL tfL fa fn K mg base) : CalleeK P w K mg base "_law_numbers_right" 8 1 m__law_numbers_right :=
  T.calleeL 55 55 (by rfl) (by rfl) sc__law_numbers_right rfl (fun _ _ _ _ _ _ us hl => match us, hl with | [_], _ => rfl) (fun X B W h hmk => der__law_numbers_right T (lf__law_error T) (ok_prime_fronts T) (ok_is_mersenne_prime T) (ok_lucas_chain T) (ok_mersenne_number T) (ok_is_fermat_prime T) (ok_pepin_rest T) (ok_fermat_number T) (ok_is_false_paper T) (ok_false_paper T) (ok_is_proth_paper T) (ok_proth_paper T) (ok_is_shape_prime T) (ok_number_above T) (ok_fermat_divisor T) (ok_mersenne_divisor T) (ok_mersenne_primes_to T) h hmk) (fun ds S _ _ => ⟨fuel, rfl⟩)

theorem ok__law_great_right {P : Program} {w : World} {K : PySem.W.Frag} {mg : Str → Option Value} {base : Heap} (T : HdL exL tfL fa fn K mg base) : CalleeK P w K mg base "_law_great_right" 10 1 m__law_great_right :=
  T.callee 56 56 (by rfl) (by rfl) sc__law_great_right rfl (fun _ _ _ _ _ _ us hl => match us, hl with | [_], _ => rfl) (fun X B W h => der__law_great_right T (ok__law_roll T) (ok__law_above T) (ok_false_paper T) (ok_proth_paper T) (ok_is_shape_prime T) (ok_shape_of T) (ok_number_above T) (ok__law_like T) (ok__law_half T) (ok__law_is_false T) (ok_lucas_chain T) (ok_pepin_rest T) (ok_fermat_number T) (ok_mersenne_primes_to T) (ok_half_rest T) (ok_mersenne_divisor T) h) (fun ds S _ _ => ⟨fuel, rfl⟩)

end LW

end

section
set_option autoImplicit true
namespace LW
open PySem PySem.Spec PyProof.Rows L2 DL HZ
def loose : List PySem.Str := ([PySem.Str.ofString "PrimeError", PySem.Str.ofString "InvalidNumber", PySem.Str.ofString "InvalidPrime", PySem.Str.ofString "InvalidBase", PySem.Str.ofString "InvalidShape", PySem.Str.ofString "GREAT", PySem.Str.ofString "LONG", PySem.Str.ofString "is_integer", PySem.Str.ofString "is_whole", PySem.Str.ofString "need_whole", PySem.Str.ofString "least_factor", PySem.Str.ofString "is_prime_in", PySem.Str.ofString "power_in", PySem.Str.ofString "sign_in", PySem.Str.ofString "MOST_POWER", PySem.Str.ofString "LISTED_POWER", PySem.Str.ofString "LISTED_FRONT", PySem.Str.ofString "above_in", PySem.Str.ofString "fits_two_shape", PySem.Str.ofString "need_two_shape", PySem.Str.ofString "shape_in", PySem.Str.ofString "half_in", PySem.Str.ofString "is_square_number", PySem.Str.ofString "paper_base", PySem.Str.ofString "is_prime_above", PySem.Str.ofString "is_false_in", PySem.Str.ofString "is_odd_great", PySem.Str.ofString "is_base_to", PySem.Str.ofString "is_two_shape", PySem.Str.ofString "number_above", PySem.Str.ofString "shape_of", PySem.Str.ofString "half_rest", PySem.Str.ofString "is_shape_prime", PySem.Str.ofString "proth_paper", PySem.Str.ofString "is_proth_paper"] : List PySem.Str) ++ ([PySem.Str.ofString "false_paper", PySem.Str.ofString "is_false_paper", PySem.Str.ofString "prime_fronts", PySem.Str.ofString "ORDERS", PySem.Str.ofString "MOST_SOUGHT", PySem.Str.ofString "fermat_in", PySem.Str.ofString "need_order", PySem.Str.ofString "least_divisor_by", PySem.Str.ofString "fermat_number", PySem.Str.ofString "pepin_rest", PySem.Str.ofString "is_fermat_prime", PySem.Str.ofString "fermat_divisor", PySem.Str.ofString "LARGEST", PySem.Str.ofString "mersenne_in", PySem.Str.ofString "chain_in", PySem.Str.ofString "need_chained", PySem.Str.ofString "mersenne_number", PySem.Str.ofString "lucas_chain", PySem.Str.ofString "is_mersenne_prime", PySem.Str.ofString "mersenne_primes_to", PySem.Str.ofString "mersenne_divisor", PySem.Str.ofString "_law_cup", PySem.Str.ofString "_law_roll", PySem.Str.ofString "_law_some", PySem.Str.ofString "_law_sort", PySem.Str.ofString "_law_like", PySem.Str.ofString "_law_power", PySem.Str.ofString "_law_above", PySem.Str.ofString "_law_sign", PySem.Str.ofString "_law_half", PySem.Str.ofString "_law_is_false", PySem.Str.ofString "_law_error", PySem.Str.ofString "_law_shapes_right", PySem.Str.ofString "_law_numbers_right", PySem.Str.ofString "_law_great_right"] : List PySem.Str)
abbrev RR : PySem.W.OpenRow := PySem.W.OpenLaw.row PySem.Challenge.rw_primessure_k79_errors_and_great_shapes
def tfD : List He.Defn := tfL.map fun x => (x, none)
def exB (K : PySem.W.Frag) : Bool := (exL K).all id && decide ((tfL.map (tabA K)).Nodup)
abbrev hk : PySem.W.Hook := He.hookX 150 fa fn [] tfD exB
def ob (s : PySem.W.SharedT) : He.AlX := He.obsX 150 fa fn [] tfD exB (HandSHeadRun.getT s)
theorem ob_eq (s : PySem.W.SharedT) : ob s = hk.obs s.abs := He.obsX_eq (HandSHeadRun.getT_eq s)
theorem run (w : World) : HandSHeadRun.RunEq RR (PySem.W.view RR.prog [77]) hk ob 20000 loose w := by
  intro os
  kernel_rfl
end LW

end

open PySem PySem.W PySem.Calls PyProof.Rows
set_option maxRecDepth 100000 in
set_option maxHeartbeats 0 in
theorem PySem.Challenge.cw_primessure_k79_errors_and_great_shapes_holds : PySem.Challenge.rw_primessure_k79_errors_and_great_shapes.Holds := by
  w_on; o_law
  refine HandSHeadRun.head_any (r := OpenLaw.row PySem.Challenge.rw_primessure_k79_errors_and_great_shapes) (q := view (OpenLaw.row PySem.Challenge.rw_primessure_k79_errors_and_great_shapes).prog [77]) (H := LW.hk) (ob := LW.ob) (M := 20000) (loose := LW.loose) (d := HandSHeadRun.topDef (OpenLaw.row PySem.Challenge.rw_primessure_k79_errors_and_great_shapes).prog 77) (kwd := []) LW.ob_eq
    (by kernel_rfl) (fun s => by kernel_rfl) LW.run (by kernel_rfl) (by kernel_rfl) (by kernel_rfl) (by rfl) (by first | assumption | decide +kernel) (by decide +kernel) ⟨rfl, rfl, rfl, rfl, rfl, by decide +kernel⟩ ?hw ?hc
  case hw => w_witness2
  case hc =>
    refine LamX.walk_ofTsE (l := PySem.Challenge.rw_primessure_k79_errors_and_great_shapes) (n := 63) (k := 11) (x := "script") (CX := fun _ => L2.CX0) rfl (by decide) (by kernel_rfl) ⟨rfl, by decide, by decide⟩ ?F (fun _ => DL.cx_no)
    intro w mg fa h Y G hmg0
    obtain ⟨K, KX, c⟩ := Y
    have hmg : mg ("law" : PySem.Str) = some (.ref fa) := by
      have e : (HandSHeadRun.topDef (OpenLaw.row PySem.Challenge.rw_primessure_k79_errors_and_great_shapes).prog 77).name = ("law" : PySem.Str) := by kernel_rfl
      rw [← e]
      exact hmg0
    have cm := Bool.and_eq_true_iff.mp c.more
    have mem : ∀ x ∈ LW.tfL, (x, none) ∈ LW.tfD := fun x hx => List.mem_map.mpr ⟨x, hx, rfl⟩
    refine ⟨K, KX, DL.law_endT (tf := LW.tfL) (xb := LW.exL) (m := LW.m_law) ⟨⟨⟨h, KX, G⟩, c.t.d⟩, cm.1⟩ KX hmg 57 57 rfl rfl LW.sc_law (fun _ _ _ _ _ _ us hl => match us, hl with | [_], _ => rfl)
      (fun x hx => c.hd _ (mem x hx)) (fun x hx => c.out _ (mem x hx)) (fun x hx => c.empty _ (mem x hx)) (of_decide_eq_true cm.2)
      (fun base T X B W hh => LW.der_law T (LW.ok__law_cup T) (LW.ok__law_some T) (LW.ok__law_shapes_right T) (LW.ok__law_numbers_right T) (LW.ok__law_great_right T) hh) (fun ds S _ _ => ⟨DL.fuel, rfl⟩) LW.law_true⟩
