import PyProof.Rows.All
import Wide.All
import OpenK.AllK
import Wide.FinOn
import HandS.ForMost
import HandS.ForExc
import HandS.Walk
import HandS.IsInst
import HandS.Wide
import HandS.Star
import HandS.CallSlots
import HandS.EndBits
import HandS.Style
import HandS.Deep
import HandS.TupAny
import PySem.Challenge.RW_standinparts_k01_words_and_dates
set_option Elab.async false
set_option linter.all false
set_option maxRecDepth 100000
set_option maxHeartbeats 4000000
namespace Mir
open PySem PySem.Spec PyProof.Rows L2

/-! ## deep values and what stands for them -/
inductive D where
  | non | bl (b : Bool) | int (i : Int) | str (x : Str) | ty (n : String) | ref (a : Addr)
  | tup (xs : List D) | lst (xs : List D) | frl (xs : List D) | dK (kvs : List (Key × D)) | ins (C : Addr) (fs : List (Str × D))

/-- a tuple: tracked, or an object of the module -/
def TupAt (K : PySem.W.Frag) (H : Hp) (a : Addr) (xs : List V) : Prop :=
  H a = some (.tup xs) ∨
    ∃ (o : Obj) (its : Array Value) (n : Nat), K.lookup a = some o ∧ o.cls = .type "tuple" ∧ o.data = .seq its n ∧ its.size ≤ sizeLine ∧ Vals xs its.toList
theorem TupAt.sq {K : PySem.W.Frag} {H : Hp} {a : Addr} {xs : List V} (h : TupAt K H a xs) : SqT K H a xs := by
  rcases h with h | h
  · exact .inl (.inl h)
  · exact .inr h
section
variable (K : PySem.W.Frag) (S : Hp)
mutual
def Rep : D → V → Prop
  | .non, v => v = .non
  | .bl b, v => v = .bl b
  | .int i, v => v = .int i
  | .str x, v => v = .str x ∧ x.length ≤ sizeLine
  | .ty n, v => v = .ty n
  | .ref a, v => v = .ref a
  | .tup ds, v => ∃ a vs, v = .ref a ∧ TupAt K S a vs ∧ ds.length ≤ sizeLine ∧ Reps ds vs
  | .lst ds, v => ∃ a vs, v = .ref a ∧ S a = some (.lst vs) ∧ ds.length ≤ sizeLine ∧ Reps ds vs
  | .frl ds, v => ∃ a vs, v = .ref a ∧ SqL K S a vs ∧ ds.length ≤ sizeLine ∧ Reps ds vs
  | .dK kds, v => ∃ a kvs, v = .ref a ∧ Rd S a (.dK kvs) ∧ kds.length ≤ sizeLine ∧ RepK kds kvs
  | .ins C gs, v => ∃ a dx fs, v = .ref a ∧ S a = some (.ins C dx fs) ∧ RepF gs fs
def Reps : List D → List V → Prop
  | [], vs => vs = []
  | d :: ds, vs => ∃ v r, vs = v :: r ∧ Rep d v ∧ Reps ds r
def RepK : List (Key × D) → List (Key × V) → Prop
  | [], kvs => kvs = []
  | (k, d) :: ds, kvs => ∃ v r, kvs = (k, v) :: r ∧ Rep d v ∧ RepK ds r
def RepF : List (Str × D) → List (Str × V) → Prop
  | [], kvs => kvs = []
  | (k, d) :: ds, kvs => ∃ v r, kvs = (k, v) :: r ∧ Rep d v ∧ RepF ds r
end
end

/-- what S2 tells beside S: all that is read as data, all instances -/
structure Le (S S2 : Hp) : Prop where
  lst : ∀ a xs, S a = some (.lst xs) → S2 a = some (.lst xs)
  tup : ∀ a xs, S a = some (.tup xs) → S2 a = some (.tup xs)
  dk : ∀ a kvs, Rd S a (.dK kvs) → Rd S2 a (.dK kvs)
  ins : ∀ a C dx fs, S a = some (.ins C dx fs) → S2 a = some (.ins C dx fs)
  frz : ∀ a o u, S a = some (.frz o u) → S2 a = some (.frz o u)
theorem Le.of {S S2 : Hp} (h : Same S S2) : Le S S2 := by
  have g : ∀ a u, Rd S a u → Rd S2 a u := fun a u r => by
    rcases r with r | ⟨o, r⟩
    · exact .inl (h _ _ r)
    · exact .inr ⟨o, h _ _ r⟩
  exact ⟨fun a xs => h a _, fun a xs => h a _, fun a kvs => g a _, fun a C dx fs => h a _, fun a o u => h a _⟩
theorem Le.trans {S S1 S2 : Hp} (x : Le S S1) (y : Le S1 S2) : Le S S2 :=
  ⟨fun a xs r => y.lst _ _ (x.lst _ _ r), fun a xs r => y.tup _ _ (x.tup _ _ r), fun a kvs r => y.dk a kvs (x.dk a kvs r), fun a C dx fs r => y.ins _ _ _ _ (x.ins _ _ _ _ r), fun a o u r => y.frz _ _ _ (x.frz _ _ _ r)⟩
theorem Le.refl (S : Hp) : Le S S := Le.of (Same.refl S)
theorem Le.tupAt {K : PySem.W.Frag} {S S2 : Hp} {a : Addr} {xs : List V} (x : Le S S2) (h : TupAt K S a xs) : TupAt K S2 a xs := by
  rcases h with h | h
  · exact .inl (x.tup _ _ h)
  · exact .inr h
theorem Le.sqL {K : PySem.W.Frag} {S S2 : Hp} {a : Addr} {xs : List V} (x : Le S S2) (h : SqL K S a xs) : SqL K S2 a xs := by
  rcases h with (h | ⟨o, h⟩) | h
  · exact .inl (.inl (x.lst a xs h))
  · exact .inl (.inr ⟨o, x.frz _ _ _ h⟩)
  · exact .inr h

section
variable {K : PySem.W.Frag} {S S2 : Hp}
mutual
theorem Rep.mono (x : Le S S2) : ∀ (d : D) (v : V), Rep K S d v → Rep K S2 d v
  | .non, v, h => h
  | .bl b, v, h => h
  | .int i, v, h => h
  | .str y, v, h => h
  | .ty n, v, h => h
  | .ref a, v, h => h
  | .tup ds, v, h => by
    obtain ⟨a, vs, e, q, l, r⟩ := h
    exact ⟨a, vs, e, x.tupAt q, l, Reps.mono x ds vs r⟩
  | .lst ds, v, h => by
    obtain ⟨a, vs, e, q, l, r⟩ := h
    exact ⟨a, vs, e, x.lst _ _ q, l, Reps.mono x ds vs r⟩
  | .frl ds, v, h => by
    obtain ⟨a, vs, e, q, l, r⟩ := h
    exact ⟨a, vs, e, x.sqL q, l, Reps.mono x ds vs r⟩
  | .dK ds, v, h => by
    obtain ⟨a, vs, e, q, l, r⟩ := h
    exact ⟨a, vs, e, x.dk _ _ q, l, RepK.mono x ds vs r⟩
  | .ins C gs, v, h => by
    obtain ⟨a, dx, fs, e, q, r⟩ := h
    exact ⟨a, dx, fs, e, x.ins _ _ _ _ q, RepF.mono x gs fs r⟩
theorem Reps.mono (x : Le S S2) : ∀ (ds : List D) (vs : List V), Reps K S ds vs → Reps K S2 ds vs
  | [], vs, h => h
  | d :: ds, vs, h => by
    obtain ⟨v, r, e, p, q⟩ := h
    exact ⟨v, r, e, Rep.mono x d v p, Reps.mono x ds r q⟩
theorem RepK.mono (x : Le S S2) : ∀ (ds : List (Key × D)) (vs : List (Key × V)), RepK K S ds vs → RepK K S2 ds vs
  | [], vs, h => h
  | (k, d) :: ds, vs, h => by
    obtain ⟨v, r, e, p, q⟩ := h
    exact ⟨v, r, e, Rep.mono x d v p, RepK.mono x ds r q⟩
theorem RepF.mono (x : Le S S2) : ∀ (ds : List (Str × D)) (vs : List (Str × V)), RepF K S ds vs → RepF K S2 ds vs
  | [], vs, h => h
  | (k, d) :: ds, vs, h => by
    obtain ⟨v, r, e, p, q⟩ := h
    exact ⟨v, r, e, Rep.mono x d v p, RepF.mono x ds r q⟩
end
end
end Mir

namespace Mir
open PySem PySem.Spec PyProof.Rows L2
abbrev St := L2.St


/-! ## objects that may still change; the slots -/
inductive MO where
  | lst (xs : List D) | dK (kvs : List (Key × D)) | ins (C : Addr) (fs : List (Str × D))
def MO.d : MO → D
  | .lst xs => .lst xs
  | .dK kvs => .dK kvs
  | .ins C fs => .ins C fs
/-- a slot: a deep value; an object of the def's own; one that the caller lent -/
inductive Sl where
  | v (d : D) | o (m : MO) | b (m : MO)
abbrev ME := List (Option Sl)
def RepO (K : PySem.W.Frag) (S : Hp) : MO → HO → Prop
  | .lst ds, o => ∃ vs, o = .lst vs ∧ ds.length ≤ sizeLine ∧ Reps K S ds vs
  | .dK kds, o => ∃ kvs, o = .dK kvs ∧ kds.length ≤ sizeLine ∧ RepK K S kds kvs
  | .ins C gs, o => ∃ dx fs, o = .ins C dx fs ∧ RepF K S gs fs
theorem RepO.mono {K : PySem.W.Frag} {S S2 : Hp} (x : Le S S2) {m : MO} {o : HO} (h : RepO K S m o) : RepO K S2 m o := by
  cases m with
  | lst ds =>
    obtain ⟨vs, e, l, r⟩ := h
    exact ⟨vs, e, l, Reps.mono x _ _ r⟩
  | dK ds =>
    obtain ⟨vs, e, l, r⟩ := h
    exact ⟨vs, e, l, RepK.mono x _ _ r⟩
  | ins C gs =>
    obtain ⟨dx, fs, e, r⟩ := h
    exact ⟨dx, fs, e, RepF.mono x _ _ r⟩
/-- frozen: read as a deep value -/
theorem RepO.rep {K : PySem.W.Frag} {S : Hp} {m : MO} {o : HO} {a : Addr} (h : RepO K S m o) (e : S a = some o) : Rep K S m.d (.ref a) := by
  cases m with
  | lst ds =>
    obtain ⟨vs, rfl, l, r⟩ := h
    exact ⟨a, vs, rfl, e, l, r⟩
  | dK ds =>
    obtain ⟨vs, rfl, l, r⟩ := h
    exact ⟨a, vs, rfl, .inl e, l, r⟩
  | ins C gs =>
    obtain ⟨dx, fs, rfl, r⟩ := h
    exact ⟨a, dx, fs, rfl, e, r⟩
def Sl.mo : Sl → Option MO
  | .v _ => none
  | .o m => some m
  | .b m => some m
def Has (env : ME) (i : Nat) (m : MO) : Prop := ∃ s, env[i]? = some (some s) ∧ s.mo = some m
/-- some slot holds the object at b -/
def Own (env : ME) (σ : St) (b : Addr) : Prop := ∃ (i : Nat) (m : MO), Has env i m ∧ σ[i]? = some (some (V.ref b))
def OwnO (env : ME) (σ : St) (b : Addr) : Prop := ∃ (i : Nat) (m : MO), env[i]? = some (some (Sl.o m)) ∧ σ[i]? = some (some (V.ref b))

structure Rel (K : PySem.W.Frag) (S : Hp) (env : ME) (σ : St) (H : Hp) : Prop where
  len : env.length = σ.length
  sub : Same S H
  val : ∀ (i : Nat) (d : D), env[i]? = some (some (Sl.v d)) → ∃ v, σ[i]? = some (some v) ∧ Rep K S d v
  obj : ∀ (i : Nat) (m : MO), Has env i m → ∃ a o, σ[i]? = some (some (V.ref a)) ∧ H a = some o ∧ S a = none ∧ RepO K S m o
  dis : ∀ (i j : Nat) (m m' : MO) (a : Addr), Has env i m → Has env j m' → σ[i]? = some (some (V.ref a)) → σ[j]? = some (some (V.ref a)) → i = j

structure Step (K : PySem.W.Frag) (S : Hp) (env : ME) (σ : St) (H : Hp) (S' : Hp) (env' : ME) (σ' : St) (H' : Hp) : Prop where
  rel : Rel K S' env' σ' H'
  le : Le S S'
  fresh : ∀ b, S' b ≠ none → S b ≠ none ∨ H b = none ∨ OwnO env σ b
  frame : ∀ b o, H b = some o → ¬ Own env σ b → H' b = some o
  bor : ∀ (i : Nat) (m : MO), env[i]? = some (some (Sl.b m)) → (∃ m', env'[i]? = some (some (Sl.b m'))) ∧ σ'[i]? = σ[i]?
  borr : ∀ (i : Nat) (m : MO), env'[i]? = some (some (Sl.b m)) → ∃ m', env[i]? = some (some (Sl.b m'))
  own : ∀ a, OwnO env' σ' a → OwnO env σ a ∨ H a = none
  len : σ'.length = σ.length

theorem OwnO.own {env : ME} {σ : St} {b : Addr} (h : OwnO env σ b) : Own env σ b := by
  obtain ⟨i, m, e, q⟩ := h
  exact ⟨i, m, ⟨_, e, rfl⟩, q⟩
theorem Rel.step {K : PySem.W.Frag} {S : Hp} {env : ME} {σ : St} {H : Hp} (r : Rel K S env σ H) : Step K S env σ H S env σ H :=
  ⟨r, Le.refl S, fun b h => .inl h, fun b o h _ => h, fun i m h => ⟨⟨m, h⟩, rfl⟩, fun i m h => ⟨m, h⟩, fun a h => .inl h, rfl⟩
section
variable {K : PySem.W.Frag} {S S1 S2 : Hp} {env env1 env2 : ME} {σ σ1 σ2 : St} {H H1 H2 : Hp}
/-- what is gone behind a step was not there, or an own object -/
theorem Step.gone (x : Step K S env σ H S1 env1 σ1 H1) {b : Addr} (h : H1 b = none) : H b = none ∨ OwnO env σ b := by
  cases e : H b with
  | none => exact .inl rfl
  | some o =>
    refine .inr ?_
    by_cases w : Own env σ b
    · obtain ⟨i, m, ⟨s, e1, e2⟩, e3⟩ := w
      cases s with
      | v d => cases e2
      | o m' => exact ⟨i, m', e1, e3⟩
      | b m' =>
        exfalso
        obtain ⟨⟨m2, q1⟩, q2⟩ := x.bor i m' e1
        obtain ⟨a, o2, z1, z2, _, _⟩ := x.rel.obj i m2 ⟨_, q1, rfl⟩
        rw [q2, e3] at z1
        cases z1
        rw [h] at z2
        cases z2
    · rw [x.frame b o e w] at h
      cases h
theorem Step.trans (x : Step K S env σ H S1 env1 σ1 H1) (y : Step K S1 env1 σ1 H1 S2 env2 σ2 H2) : Step K S env σ H S2 env2 σ2 H2 := by
  refine ⟨y.rel, x.le.trans y.le, fun b h => ?_, fun b o h n => ?_, fun i m h => ?_, fun i m h => ?_, fun a h => ?_, y.len.trans x.len⟩
  · rcases y.fresh b h with h | h | h
    · exact x.fresh b h
    · rcases x.gone h with h | h
      · exact .inr (.inl h)
      · exact .inr (.inr h)
    · rcases x.own b h with h | h
      · exact .inr (.inr h)
      · exact .inr (.inl h)
  · refine y.frame b o (x.frame b o h n) ?_
    rintro ⟨i, m, ⟨s, e1, e2⟩, e3⟩
    cases s with
    | v d => cases e2
    | o m' =>
      rcases x.own b ⟨i, m', e1, e3⟩ with w | w
      · exact n w.own
      · rw [h] at w; cases w
    | b m' =>
      obtain ⟨m0, q⟩ := x.borr i m' e1
      obtain ⟨_, q2⟩ := x.bor i m0 q
      exact n ⟨i, m0, ⟨_, q, rfl⟩, by rw [← q2]; exact e3⟩
  · obtain ⟨⟨m1, q1⟩, q2⟩ := x.bor i m h
    obtain ⟨m2, q4⟩ := y.bor i m1 q1
    exact ⟨m2, q4.trans q2⟩
  · obtain ⟨m1, q1⟩ := y.borr i m h
    exact x.borr i m1 q1
  · rcases y.own a h with h | h
    · exact x.own a h
    · rcases x.gone h with h | h
      · exact .inr h
      · exact .inl h
/-- a new object that stays -/
theorem Rel.alloc (r : Rel K S env σ H) {p : Addr} {o : HO} (hp : H p = none) : Step K S env σ H (upd S p o) env σ (upd H p o) := by
  have hS : S p = none := by
    cases e : S p with
    | none => rfl
    | some u => rw [r.sub _ _ e] at hp; cases hp
  have sm : Same S (upd S p o) := fun b u e => by rw [upd_ne (ne_of_none e hS)]; exact e
  refine ⟨⟨r.len, fun b u e => ?_, fun i d e => ?_, fun i m e => ?_, r.dis⟩, Le.of sm, fun b h => ?_, fun b u e _ => ?_, fun i m h => ⟨⟨m, h⟩, rfl⟩, fun i m h => ⟨m, h⟩, fun a h => .inl h, rfl⟩
  · by_cases hb : b = p
    · subst hb; rw [upd_same] at e; rw [upd_same]; exact e
    · rw [upd_ne hb] at e; rw [upd_ne hb]; exact r.sub b u e
  · obtain ⟨v, e1, e2⟩ := r.val i d e
    exact ⟨v, e1, Rep.mono (Le.of sm) _ _ e2⟩
  · obtain ⟨a, u, e1, e2, e3, e4⟩ := r.obj i m e
    have ne : a ≠ p := ne_of_none e2 hp
    exact ⟨a, u, e1, by rw [upd_ne ne]; exact e2, by rw [upd_ne ne]; exact e3, e4.mono (Le.of sm)⟩
  · by_cases hb : b = p
    · subst hb; exact .inr (.inl hp)
    · rw [upd_ne hb] at h; exact .inl h
  · rw [upd_ne (ne_of_none e hp)]; exact e
/-- an untracked-for-us object beside: H grows alone -/
theorem Rel.beside (r : Rel K S env σ H) {p : Addr} {o : HO} (hp : H p = none) : Step K S env σ H S env σ (upd H p o) := by
  refine ⟨⟨r.len, fun b u e => ?_, r.val, fun i m e => ?_, r.dis⟩, Le.refl S, fun b h => .inl h, fun b u e _ => ?_, fun i m h => ⟨⟨m, h⟩, rfl⟩, fun i m h => ⟨m, h⟩, fun a h => .inl h, rfl⟩
  · have e' := r.sub b u e
    rw [upd_ne (ne_of_none e' hp)]; exact e'
  · obtain ⟨a, u, e1, e2, e3, e4⟩ := r.obj i m e
    exact ⟨a, u, e1, by rw [upd_ne (ne_of_none e2 hp)]; exact e2, e3, e4⟩
  · rw [upd_ne (ne_of_none e hp)]; exact e

theorem has_set {i j : Nat} {s : Option Sl} {m : MO} (h : Has (env.set i s) j m) : (j = i ∧ ∃ q, s = some q ∧ q.mo = some m) ∨ (j ≠ i ∧ Has env j m) := by
  obtain ⟨q, e1, e2⟩ := h
  by_cases e : i = j
  · subst e
    have hl : i < env.length := by
      have := (List.getElem?_eq_some_iff.mp e1).1
      simpa using this
    rw [List.getElem?_set_self hl] at e1
    exact .inl ⟨rfl, q, Option.some.inj e1, e2⟩
  · rw [List.getElem?_set_ne e] at e1
    exact .inr ⟨fun z => e z.symm, q, e1, e2⟩
/-- the slot is not lent -/
def NotB (env : ME) (i : Nat) : Prop := ∀ m, env[i]? ≠ some (some (.b m))
/-- a slot is given a deep value (or is forgotten) -/
theorem Rel.setV (r : Rel K S env σ H) {i : Nat} {d : D} {v : V} (nb : NotB env i) (hd : Rep K S d v) : Step K S env σ H S (env.set i (some (.v d))) (σ.set i (some v)) H := by
  have old : ∀ j m, Has (env.set i (some (.v d))) j m → j ≠ i ∧ Has env j m := fun j m h => by
    rcases has_set h with ⟨_, q, e1, e2⟩ | h
    · cases e1; cases e2
    · exact h
  refine ⟨⟨by simp [r.len], r.sub, fun j d' e => ?_, fun j m e => ?_, fun j k m m' a e1 e2 e3 e4 => ?_⟩, Le.refl S, fun b h => .inl h, fun b u e _ => e, fun j m h => ?_, fun j m h => ?_, fun a h => ?_, by simp⟩
  · by_cases hj : i = j
    · subst hj
      have hl : i < env.length := by
        have := (List.getElem?_eq_some_iff.mp e).1
        simpa using this
      rw [List.getElem?_set_self hl] at e
      cases e
      exact ⟨v, List.getElem?_set_self (by rw [← r.len]; exact hl), hd⟩
    · rw [List.getElem?_set_ne hj] at e
      rw [List.getElem?_set_ne hj]
      exact r.val j d' e
  · obtain ⟨n, h⟩ := old j m e
    rw [List.getElem?_set_ne (Ne.symm n)]
    exact r.obj j m h
  · obtain ⟨n1, h1⟩ := old j m e1
    obtain ⟨n2, h2⟩ := old k m' e2
    rw [List.getElem?_set_ne (Ne.symm n1)] at e3
    rw [List.getElem?_set_ne (Ne.symm n2)] at e4
    exact r.dis j k m m' a h1 h2 e3 e4
  · have hj : i ≠ j := fun z => nb m (by rw [z]; exact h)
    rw [List.getElem?_set_ne hj, List.getElem?_set_ne hj]
    exact ⟨⟨m, h⟩, rfl⟩
  · by_cases hj : i = j
    · subst hj
      have hl : i < env.length := by
        have := (List.getElem?_eq_some_iff.mp h).1
        simpa using this
      rw [List.getElem?_set_self hl] at h
      cases h
    · rw [List.getElem?_set_ne hj] at h
      exact ⟨m, h⟩
  · obtain ⟨j, m, e1, e2⟩ := h
    have hj : i ≠ j := fun z => by
      subst z
      have hl : i < env.length := by
        have := (List.getElem?_eq_some_iff.mp e1).1
        simpa using this
      rw [List.getElem?_set_self hl] at e1
      cases e1
    rw [List.getElem?_set_ne hj] at e1 e2
    exact .inl ⟨j, m, e1, e2⟩
/-- what we say of a slot may be forgotten -/
theorem Rel.forget (r : Rel K S env σ H) {i : Nat} {x : Option V} (nb : NotB env i) : Step K S env σ H S (env.set i none) (σ.set i x) H := by
  have old : ∀ j m, Has (env.set i none) j m → j ≠ i ∧ Has env j m := fun j m h => by
    rcases has_set h with ⟨_, q, e1, e2⟩ | h
    · cases e1
    · exact h
  refine ⟨⟨by simp [r.len], r.sub, fun j d' e => ?_, fun j m e => ?_, fun j k m m' a e1 e2 e3 e4 => ?_⟩, Le.refl S, fun b h => .inl h, fun b u e _ => e, fun j m h => ?_, fun j m h => ?_, fun a h => ?_, by simp⟩
  · by_cases hj : i = j
    · subst hj
      have hl : i < env.length := by
        have := (List.getElem?_eq_some_iff.mp e).1
        simpa using this
      rw [List.getElem?_set_self hl] at e
      cases e
    · rw [List.getElem?_set_ne hj] at e
      rw [List.getElem?_set_ne hj]
      exact r.val j d' e
  · obtain ⟨n, h⟩ := old j m e
    rw [List.getElem?_set_ne (Ne.symm n)]
    exact r.obj j m h
  · obtain ⟨n1, h1⟩ := old j m e1
    obtain ⟨n2, h2⟩ := old k m' e2
    rw [List.getElem?_set_ne (Ne.symm n1)] at e3
    rw [List.getElem?_set_ne (Ne.symm n2)] at e4
    exact r.dis j k m m' a h1 h2 e3 e4
  · have hj : i ≠ j := fun z => nb m (by rw [z]; exact h)
    rw [List.getElem?_set_ne hj, List.getElem?_set_ne hj]
    exact ⟨⟨m, h⟩, rfl⟩
  · by_cases hj : i = j
    · subst hj
      have hl : i < env.length := by
        have := (List.getElem?_eq_some_iff.mp h).1
        simpa using this
      rw [List.getElem?_set_self hl] at h
      cases h
    · rw [List.getElem?_set_ne hj] at h
      exact ⟨m, h⟩
  · obtain ⟨j, m, e1, e2⟩ := h
    have hj : i ≠ j := fun z => by
      subst z
      have hl : i < env.length := by
        have := (List.getElem?_eq_some_iff.mp e1).1
        simpa using this
      rw [List.getElem?_set_self hl] at e1
      cases e1
    rw [List.getElem?_set_ne hj] at e1 e2
    exact .inl ⟨j, m, e1, e2⟩
end
end Mir

namespace Mir
open PySem PySem.Spec PyProof.Rows L2
section
variable {K : PySem.W.Frag} {S S1 S2 : Hp} {env env1 env2 : ME} {σ σ1 σ2 : St} {H H1 H2 : Hp}
theorem lt_of_at {α : Type} {l : List α} {i : Nat} {x : α} (h : l[i]? = some x) : i < l.length := (List.getElem?_eq_some_iff.mp h).1
theorem set_self {α : Type} {l : List α} {i : Nat} {x y : α} (h : (l.set i x)[i]? = some y) : y = x := by
  have hl : i < l.length := by
    have := lt_of_at h
    simpa using this
  rw [List.getElem?_set_self hl] at h
  exact (Option.some.inj h).symm
/-- a slot is given a new object of the def's own, laid at p -/
theorem Rel.setO (r : Rel K S env σ H) {i : Nat} {m : MO} {p : Addr} {o : HO} (nb : NotB env i) (hp : H p = none) (ho : RepO K S m o) :
    Step K S env σ H S (env.set i (some (.o m))) (σ.set i (some (.ref p))) (upd H p o) := by
  have hS : S p = none := by
    cases e : S p with
    | none => rfl
    | some u => rw [r.sub _ _ e] at hp; cases hp
  have old : ∀ (j : Nat) (m' : MO), Has (env.set i (some (.o m))) j m' → (j = i ∧ m' = m ∧ i < env.length) ∨ (j ≠ i ∧ Has env j m') := fun j m' h => by
    have h0 := h
    rcases has_set h with ⟨rfl, q, e1, e2⟩ | h
    · cases e1
      cases e2
      obtain ⟨q, e1, e2⟩ := h0
      refine .inl ⟨rfl, rfl, ?_⟩
      have := lt_of_at e1
      simpa using this
    · exact .inr h
  have nep : ∀ (j : Nat) (m' : MO), Has env j m' → σ[j]? ≠ some (some (V.ref p)) := fun j m' h e => by
    obtain ⟨a, u, e1, e2, _, _⟩ := r.obj j m' h
    rw [e] at e1
    cases e1
    rw [hp] at e2
    cases e2
  refine ⟨⟨by simp [r.len], fun b u e => ?_, fun j d' e => ?_, fun j m' e => ?_, fun j k m' m2 a e1 e2 e3 e4 => ?_⟩, Le.refl S, fun b h => .inl h, fun b u e _ => ?_, fun j m' h => ?_, fun j m' h => ?_, fun a h => ?_, by simp⟩
  · have e' := r.sub b u e
    rw [upd_ne (ne_of_none e' hp)]; exact e'
  · by_cases hj : i = j
    · subst hj
      have := set_self e
      cases this
    · rw [List.getElem?_set_ne hj] at e
      rw [List.getElem?_set_ne hj]
      exact r.val j d' e
  · rcases old j m' e with ⟨rfl, rfl, hl⟩ | ⟨n, h⟩
    · exact ⟨p, o, List.getElem?_set_self (by rw [← r.len]; exact hl), upd_same, hS, ho⟩
    · rw [List.getElem?_set_ne (Ne.symm n)]
      obtain ⟨a, u, e1, e2, e3, e4⟩ := r.obj j m' h
      exact ⟨a, u, e1, by rw [upd_ne (ne_of_none e2 hp)]; exact e2, e3, e4⟩
  · rcases old j m' e1 with ⟨rfl, rfl, hl⟩ | ⟨n1, h1⟩ <;> rcases old k m2 e2 with ⟨rfl, rfl, hl2⟩ | ⟨n2, h2⟩
    · rfl
    · exfalso
      rw [List.getElem?_set_self (by rw [← r.len]; exact hl)] at e3
      cases e3
      rw [List.getElem?_set_ne (Ne.symm n2)] at e4
      exact nep k m2 h2 e4
    · exfalso
      rw [List.getElem?_set_self (by rw [← r.len]; exact hl2)] at e4
      cases e4
      rw [List.getElem?_set_ne (Ne.symm n1)] at e3
      exact nep j m' h1 e3
    · rw [List.getElem?_set_ne (Ne.symm n1)] at e3
      rw [List.getElem?_set_ne (Ne.symm n2)] at e4
      exact r.dis j k m' m2 a h1 h2 e3 e4
  · rw [upd_ne (ne_of_none e hp)]; exact e
  · have hj : i ≠ j := fun z => nb m' (by rw [z]; exact h)
    rw [List.getElem?_set_ne hj, List.getElem?_set_ne hj]
    exact ⟨⟨m', h⟩, rfl⟩
  · by_cases hj : i = j
    · subst hj
      have := set_self h
      cases this
    · rw [List.getElem?_set_ne hj] at h
      exact ⟨m', h⟩
  · obtain ⟨j, m', e1, e2⟩ := h
    by_cases hj : i = j
    · subst hj
      have hl : i < env.length := by
        have := lt_of_at e1
        simpa using this
      rw [List.getElem?_set_self (by rw [← r.len]; exact hl)] at e2
      cases e2
      exact .inr hp
    · rw [List.getElem?_set_ne hj] at e1 e2
      exact .inl ⟨j, m', e1, e2⟩
/-- a slot's object with another content -/
def Sl.put (m : MO) : Sl → Sl
  | .v d => .v d
  | .o _ => .o m
  | .b _ => .b m
/-- an object of a slot is changed -/
theorem Rel.mut (r : Rel K S env σ H) {i : Nat} {m m' : MO} {s : Sl} {a : Addr} {o' : HO} (hs : env[i]? = some (some s)) (hm : s.mo = some m) (ha : σ[i]? = some (some (.ref a))) (ho : RepO K S m' o') :
    Step K S env σ H S (env.set i (some (s.put m'))) σ (upd H a o') := by
  have hl : i < env.length := lt_of_at hs
  obtain ⟨a0, u0, x1, x2, x3, x4⟩ := r.obj i m ⟨s, hs, hm⟩
  rw [ha] at x1
  cases x1
  have pm : (s.put m').mo = some m' := by
    cases s with
    | v d => cases hm
    | o z => rfl
    | b z => rfl
  have old : ∀ (j : Nat) (m2 : MO), Has (env.set i (some (s.put m'))) j m2 → (j = i ∧ m2 = m') ∨ (j ≠ i ∧ Has env j m2) := fun j m2 h => by
    rcases has_set h with ⟨rfl, q, e1, e2⟩ | h
    · cases e1
      rw [pm] at e2
      exact .inl ⟨rfl, (Option.some.inj e2).symm⟩
    · exact .inr h
  have ne : ∀ (j : Nat) (m2 : MO) (b : Addr), j ≠ i → Has env j m2 → σ[j]? = some (some (V.ref b)) → b ≠ a := fun j m2 b n h e z => by
    subst z
    exact n (r.dis j i m2 m b h ⟨s, hs, hm⟩ e ha)
  refine ⟨⟨by simp [r.len], fun b u e => ?_, fun j d' e => ?_, fun j m2 e => ?_, fun j k m2 m3 b e1 e2 e3 e4 => ?_⟩, Le.refl S, fun b h => .inl h, fun b u e n => ?_, fun j m2 h => ?_, fun j m2 h => ?_, fun b h => ?_, rfl⟩
  · have e' := r.sub b u e
    have hb : b ≠ a := fun z => by
      subst z
      rw [x3] at e
      cases e
    rw [upd_ne hb]; exact e'
  · by_cases hj : i = j
    · subst hj
      have := set_self e
      cases s with
      | v d => cases hm
      | o z => cases this
      | b z => cases this
    · rw [List.getElem?_set_ne hj] at e
      exact r.val j d' e
  · rcases old j m2 e with ⟨rfl, rfl⟩ | ⟨n, h⟩
    · exact ⟨a, o', ha, upd_same, x3, ho⟩
    · obtain ⟨b, u, e1, e2, e3, e4⟩ := r.obj j m2 h
      exact ⟨b, u, e1, by rw [upd_ne (ne j m2 b n h e1)]; exact e2, e3, e4⟩
  · rcases old j m2 e1 with ⟨rfl, rfl⟩ | ⟨n1, h1⟩ <;> rcases old k m3 e2 with ⟨rfl, rfl⟩ | ⟨n2, h2⟩
    · rfl
    · rw [ha] at e3
      cases e3
      exact absurd rfl (ne k m3 _ n2 h2 e4)
    · rw [ha] at e4
      cases e4
      exact absurd rfl (ne j m2 _ n1 h1 e3)
    · exact r.dis j k m2 m3 b h1 h2 e3 e4
  · have hb : b ≠ a := fun z => by
      subst z
      exact n ⟨i, m, ⟨s, hs, hm⟩, ha⟩
    rw [upd_ne hb]; exact e
  · by_cases hj : i = j
    · subst hj
      rw [hs] at h
      cases h
      rw [List.getElem?_set_self hl]
      exact ⟨⟨m', rfl⟩, rfl⟩
    · rw [List.getElem?_set_ne hj]
      exact ⟨⟨m2, h⟩, rfl⟩
  · by_cases hj : i = j
    · subst hj
      have := set_self h
      cases s with
      | v d => cases hm
      | o z => cases this
      | b z => exact ⟨z, hs⟩
    · rw [List.getElem?_set_ne hj] at h
      exact ⟨m2, h⟩
  · obtain ⟨j, m2, e1, e2⟩ := h
    by_cases hj : i = j
    · subst hj
      have := set_self e1
      cases s with
      | v d => cases hm
      | o z => exact .inl ⟨i, z, hs, e2⟩
      | b z => cases this
    · rw [List.getElem?_set_ne hj] at e1
      exact .inl ⟨j, m2, e1, e2⟩
/-- an own object of a slot is left to itself: from now on it is a deep value -/
theorem Rel.frz (r : Rel K S env σ H) {i : Nat} {m : MO} (hs : env[i]? = some (some (.o m))) : ∃ S', Step K S env σ H S' (env.set i (some (.v m.d))) σ H := by
  have hl : i < env.length := lt_of_at hs
  obtain ⟨a, u, x1, x2, x3, x4⟩ := r.obj i m ⟨_, hs, rfl⟩
  have sm : Same S (upd S a u) := fun b w e => by rw [upd_ne (ne_of_none e x3)]; exact e
  have old : ∀ (j : Nat) (m2 : MO), Has (env.set i (some (.v m.d))) j m2 → (j ≠ i ∧ Has env j m2) := fun j m2 h => by
    rcases has_set h with ⟨rfl, q, e1, e2⟩ | h
    · cases e1
      cases e2
    · exact h
  refine ⟨upd S a u, ⟨by simp [r.len], fun b w e => ?_, fun j d' e => ?_, fun j m2 e => ?_, fun j k m2 m3 b e1 e2 e3 e4 => ?_⟩, Le.of sm, fun b h => ?_, fun b w e n => e, fun j m2 h => ?_, fun j m2 h => ?_, fun b h => ?_, rfl⟩
  · by_cases hb : b = a
    · subst hb; rw [upd_same] at e; cases e; exact x2
    · rw [upd_ne hb] at e; exact r.sub b w e
  · by_cases hj : i = j
    · subst hj
      have := set_self e
      cases this
      exact ⟨.ref a, x1, (x4.mono (Le.of sm)).rep upd_same⟩
    · rw [List.getElem?_set_ne hj] at e
      obtain ⟨v, e1, e2⟩ := r.val j d' e
      exact ⟨v, e1, Rep.mono (Le.of sm) _ _ e2⟩
  · obtain ⟨n, h⟩ := old j m2 e
    obtain ⟨b, w, e1, e2, e3, e4⟩ := r.obj j m2 h
    have hb : b ≠ a := fun z => by
      subst z
      exact n (r.dis j i m2 m b h ⟨_, hs, rfl⟩ e1 x1)
    exact ⟨b, w, e1, e2, by rw [upd_ne hb]; exact e3, e4.mono (Le.of sm)⟩
  · exact r.dis j k m2 m3 b (old j m2 e1).2 (old k m3 e2).2 e3 e4
  · by_cases hb : b = a
    · subst hb; exact .inr (.inr ⟨i, m, hs, x1⟩)
    · rw [upd_ne hb] at h; exact .inl h
  · have hj : i ≠ j := fun z => by
      subst z
      rw [hs] at h
      cases h
    rw [List.getElem?_set_ne hj]
    exact ⟨⟨m2, h⟩, rfl⟩
  · by_cases hj : i = j
    · subst hj
      have := set_self h
      cases this
    · rw [List.getElem?_set_ne hj] at h
      exact ⟨m2, h⟩
  · obtain ⟨j, m2, e1, e2⟩ := h
    have hj : i ≠ j := fun z => by
      subst z
      have := set_self e1
      cases this
    rw [List.getElem?_set_ne hj] at e1
    exact .inl ⟨j, m2, e1, e2⟩
end
end Mir

namespace Mir
open PySem PySem.Spec PyProof.Rows L2

/-! ## what a piece of the text computes -/
inductive Ex where
  | own (C : Addr) (fs : List (Str × D)) | bi (n : String)
def RepX (K : PySem.W.Frag) (S : Hp) : Ex → Value → Option Addr → Hp → Prop
  | .own C fs, cls, dd, H => cls = .ref C ∧ ∃ d kvs, dd = some d ∧ H d = some (.xd kvs) ∧ RepF K S fs kvs
  | .bi n, cls, _, _ => cls = .type n
inductive Res (α : Type) where
  | ok (a : α) | ex (x : Ex)
abbrev EF (α : Type) := ME → Option (Res α × ME)
section
variable {α β γ : Type}
def eRet (a : α) : EF α := fun e => some (.ok a, e)
def eLift (o : Option (Res α)) : EF α := fun e => match o with
  | some r => some (r, e)
  | none => none
def eBind (f : EF α) (g : α → EF β) : EF β := fun e => match f e with
  | some (.ok a, e1) => g a e1
  | some (.ex x, e1) => some (.ex x, e1)
  | none => none
end
/-- what is handed on: a deep value, or the object of a slot -/
inductive AV where
  | d (d : D) | own (i : Nat)
def RA (K : PySem.W.Frag) (σ : St) (S : Hp) : AV → V → Prop
  | .d d, v => Rep K S d v
  | .own i, v => σ[i]? = some (some v)
def RAs (K : PySem.W.Frag) (σ : St) (S : Hp) : List AV → List V → Prop
  | [], vs => vs = []
  | a :: as, vs => ∃ v r, vs = v :: r ∧ RA K σ S a v ∧ RAs K σ S as r
theorem RA.mono {K : PySem.W.Frag} {σ : St} {S S2 : Hp} (x : Le S S2) {a : AV} {v : V} (h : RA K σ S a v) : RA K σ S2 a v := by
  cases a with
  | d d => exact Rep.mono x d v h
  | own i => exact h
theorem RAs.mono {K : PySem.W.Frag} {σ : St} {S S2 : Hp} (x : Le S S2) : ∀ {as : List AV} {vs : List V}, RAs K σ S as vs → RAs K σ S2 as vs
  | [], _, h => h
  | a :: as, _, h => by
    obtain ⟨v, r, e, p, q⟩ := h
    exact ⟨v, r, e, p.mono x, RAs.mono x q⟩

abbrev RR (α β : Type) := St → Hp → α → β → Prop
def RD (K : PySem.W.Frag) : RR D V := fun _ S d v => Rep K S d v
def RAv (K : PySem.W.Frag) : RR AV V := fun σ S d v => RA K σ S d v
def RAl (K : PySem.W.Frag) : RR (List AV) (List V) := fun σ S d v => RAs K σ S d v
def RB : RR Bool Bool := fun _ _ a b => a = b

def Post {α β : Type} (K : PySem.W.Frag) (W : WX) (R : RR α β) (σ : St) (Q : β → Hp → Prop) : Res α → Hp → Hp → Prop
  | .ok a, S', H' => ∀ b, R σ S' a b → Q b H'
  | .ex x, S', H' => ∀ cls dd, RepX K S' x cls dd H' → W cls dd σ H'
def At {α β : Type} (K : PySem.W.Frag) (W : WX) (R : RR α β) (f : EF α) (S : Hp) (env : ME) (σ : St) (H : Hp) (Q : β → Hp → Prop) : Prop :=
  ∃ r env', Rel K S env σ H ∧ f env = some (r, env') ∧ ∀ S' H', Step K S env σ H S' env' σ H' → Post K W R σ Q r S' H'
def tr {α β : Type} (K : PySem.W.Frag) (W : WX) (R : RR α β) (f : EF α) : St → Hp → (β → Hp → Prop) → Prop := fun σ H Q => ∃ S env, At K W R f S env σ H Q

section
variable {α β α' β' : Type} {K : PySem.W.Frag} {W : WX} {R : RR α β} {R' : RR α' β'} {S S1 : Hp} {env env1 : ME} {σ : St} {H H1 : Hp} {f : EF α} {g : α → EF α'} {Q : β → Hp → Prop} {Q' : β' → Hp → Prop}
theorem At.rel (h : At K W R f S env σ H Q) : Rel K S env σ H := h.elim fun _ h => h.elim fun _ h => h.1
theorem At.bind (h : At K W R' (eBind f g) S env σ H Q') :
    At K W R f S env σ H (fun b H1 => ∃ a S1 env1, R σ S1 a b ∧ Step K S env σ H S1 env1 σ H1 ∧ At K W R' (g a) S1 env1 σ H1 Q') := by
  obtain ⟨r, env', rel, e, q⟩ := h
  unfold eBind at e
  cases ef : f env with
  | none => rw [ef] at e; cases e
  | some p =>
    obtain ⟨r1, e1⟩ := p
    rw [ef] at e
    cases r1 with
    | ex x =>
      have e' : some (Res.ex x, e1) = some (r, env') := e
      cases e'
      exact ⟨.ex x, _, rel, ef, fun S' H' st => q S' H' st⟩
    | ok a =>
      have e' : g a e1 = some (r, env') := e
      refine ⟨.ok a, e1, rel, ef, fun S1 H1 st b rb => ⟨a, S1, e1, rb, st, r, env', st.rel, e', fun S' H' st' => q S' H' (st.trans st')⟩⟩
theorem At.ret {a : α} (h : At K W R (eRet a) S env σ H Q) {b : β} (rb : R σ S a b) : Q b H := by
  obtain ⟨r, env', rel, e, q⟩ := h
  cases e
  exact q S H rel.step b rb
/-- a step of the heap ahead of the end -/
theorem At.ret' {a : α} (h : At K W R (eRet a) S env σ H Q) {b : β} (st : Step K S env σ H S1 env σ H1) (rb : R σ S1 a b) : Q b H1 := by
  obtain ⟨r, env', rel, e, q⟩ := h
  cases e
  exact q S1 H1 st b rb
theorem At.lift {o : Option (Res α)} (h : At K W R (eLift o) S env σ H Q) : ∃ r, o = some r ∧ ∀ S' H', Step K S env σ H S' env σ H' → Post K W R σ Q r S' H' := by
  obtain ⟨r, env', rel, e, q⟩ := h
  unfold eLift at e
  cases o with
  | none => cases e
  | some r' => cases e; exact ⟨r, rfl, q⟩
theorem At.imp (h : At K W R f S env σ H Q) {Q2 : β → Hp → Prop} (hq : ∀ b H', Q b H' → Q2 b H') : At K W R f S env σ H Q2 := by
  obtain ⟨r, env', rel, e, q⟩ := h
  refine ⟨r, env', rel, e, fun S' H' st => ?_⟩
  have := q S' H' st
  cases r with
  | ok a => exact fun b rb => hq b H' (this b rb)
  | ex x => exact this
end

/-! ## the judgements -/
section
variable {X : Cx}
theorem pe_imp {e : Expr} {t t' : TE} (h : PE X e t) (w : ∀ σ H Q, t' σ H Q → t σ H Q) : PE X e t' := ⟨fun pins s σ H Q I q => h.run pins s σ H Q I (w σ H Q q)⟩
theorem pt_imp {e : Expr} {t t' : TT} (h : PT X e t) (w : ∀ σ H Q, t' σ H Q → t σ H Q) : PT X e t' := ⟨fun pins s σ H Q I q => h.run pins s σ H Q I (w σ H Q q)⟩
theorem pw_imp {e : Expr} {t t' : TT} (h : PW X e t) (w : ∀ σ H Q, t' σ H Q → t σ H Q) : PW X e t' := ⟨fun wh pins s σ H Q I q => h.run wh pins s σ H Q I (w σ H Q q)⟩
theorem pa_imp {e : List Expr} {t t' : TA} (h : PA X e t) (w : ∀ σ H Q, t' σ H Q → t σ H Q) : PA X e t' := ⟨fun pos pins s σ H Q I q => h.run pos pins s σ H Q I (w σ H Q q)⟩
theorem ps_imp {e : Stmt} {t t' : TS} (h : PS X e t) (w : ∀ D σ H, t' D σ H → t D σ H) : PS X e t' := ⟨fun pins s σ H D I q => h.run pins s σ H D I (w D σ H q)⟩
theorem pss_imp {e : List Stmt} {t t' : TS} (h : PSs X e t) (w : ∀ D σ H, t' D σ H → t D σ H) : PSs X e t' := ⟨fun pins s σ H D I q => h.run pins s σ H D I (w D σ H q)⟩
end
/-- an expression: its deep value -/
def DE (X : Cx) (W : WX) (e : Expr) (f : EF D) : Prop := PE X e (tr X.K W (RD X.K) f)
/-- .. what may be handed on -/
def DV (X : Cx) (W : WX) (e : Expr) (f : EF AV) : Prop := PE X e (tr X.K W (RAv X.K) f)
def DT (X : Cx) (W : WX) (e : Expr) (f : EF Bool) : Prop := PT X e (tr X.K W RB f)
def DW (X : Cx) (W : WX) (e : Expr) (f : EF Bool) : Prop := PW X e (tr X.K W RB f)
def DA (X : Cx) (W : WX) (es : List Expr) (f : EF (List AV)) : Prop := PA X es (tr X.K W (RAl X.K) f)

section
variable {X : Cx} {W : WX}
/-! ### names, constants -/
def eVar (i : Nat) : EF D := fun e => match e[i]? with
  | some (some (.v d)) => some (.ok d, e)
  | _ => none
def eName (i : Nat) : EF AV := fun e => match e[i]? with
  | some (some (.v d)) => some (.ok (.d d), e)
  | some (some (.o _)) => some (.ok (.own i), e)
  | some (some (.b _)) => some (.ok (.own i), e)
  | _ => none
theorem de_var (i : Nat) {x : Str} {pos : Pos} (hN : X.N[i]? = some x := by rfl) (hv : Vis X.env.scope x := by first | exact Or.inl rfl | exact Or.inr (Or.inl rfl) | exact Or.inr (Or.inr rfl))
    (hd : (x == ("__debug__" : Str)) = false := by decide) (hcd : (x == ("__classdict__" : Str)) = false := by decide) : DE X W (.Name x pos) (eVar i) := by
  refine pe_imp (pe_var hN hv hd hcd) ?_
  rintro σ H Q ⟨S, env, r, env', rel, e, q⟩
  unfold eVar at e
  split at e
  · rename_i d hd
    cases e
    obtain ⟨v, e1, e2⟩ := rel.val i d hd
    exact ⟨v, e1, q S H rel.step v e2⟩
  · cases e
theorem dv_name (i : Nat) {x : Str} {pos : Pos} (hN : X.N[i]? = some x := by rfl) (hv : Vis X.env.scope x := by first | exact Or.inl rfl | exact Or.inr (Or.inl rfl) | exact Or.inr (Or.inr rfl))
    (hd : (x == ("__debug__" : Str)) = false := by decide) (hcd : (x == ("__classdict__" : Str)) = false := by decide) : DV X W (.Name x pos) (eName i) := by
  refine pe_imp (pe_var hN hv hd hcd) ?_
  rintro σ H Q ⟨S, env, r, env', rel, e, q⟩
  unfold eName at e
  split at e
  · rename_i d hd
    cases e
    obtain ⟨v, e1, e2⟩ := rel.val i d hd
    exact ⟨v, e1, q S H rel.step v e2⟩
  · rename_i m hm
    cases e
    obtain ⟨a, o, e1, _⟩ := rel.obj i m ⟨_, hm, rfl⟩
    exact ⟨.ref a, e1, q S H rel.step (.ref a) e1⟩
  · rename_i m hm
    cases e
    obtain ⟨a, o, e1, _⟩ := rel.obj i m ⟨_, hm, rfl⟩
    exact ⟨.ref a, e1, q S H rel.step (.ref a) e1⟩
  · cases e
theorem de_const {e : Expr} {v : V} {d : D} (h : PE X e (tC v)) (r : ∀ S, Rep X.K S d v) : DE X W e (eRet d) := by
  refine pe_imp h ?_
  rintro σ H Q ⟨S, env, a⟩
  exact a.ret (r S)
theorem de_int {i j pos} : DE X W (.Constant (.int i) j pos) (eRet (.int i)) := de_const pe_int fun _ => rfl
theorem de_bl {b j pos} : DE X W (.Constant (.bool b) j pos) (eRet (.bl b)) := de_const pe_bl fun _ => rfl
theorem de_non {j pos} : DE X W (.Constant .none j pos) (eRet .non) := de_const pe_non fun _ => rfl
theorem de_str {x : Str} {j pos} (h : x.length ≤ sizeLine := by decide) : DE X W (.Constant (.str x) j pos) (eRet (.str x)) := de_const pe_str fun _ => ⟨rfl, h⟩
/-- a constant of the module -/
theorem de_gl {x : Str} {d : D} {v : V} {pos : Pos} (h : ∃ u, X.mg x = some u ∧ RelV v u) (r : ∀ S, Rep X.K S d v) (hg : Gl X x := by rfl) (hd : (x == ("__debug__" : Str)) = false := by decide) : DE X W (.Name x pos) (eRet d) := by
  obtain ⟨u, h1, h2⟩ := h
  exact de_const (pe_glob hg h1 h2 hd) r
theorem de_gint {x : Str} {i : Int} {pos : Pos} (h : ∃ t, X.mg x = some (.int i t)) (hg : Gl X x := by rfl) (hd : (x == ("__debug__" : Str)) = false := by decide) : DE X W (.Name x pos) (eRet (.int i)) :=
  de_gl (v := .int i) (h.elim fun t h => ⟨_, h, t, rfl⟩) (fun _ => rfl) hg hd
theorem de_gstr {x z : Str} {pos : Pos} (h : ∃ t, X.mg x = some (.str z t)) (hz : z.length ≤ sizeLine := by decide) (hg : Gl X x := by rfl) (hd : (x == ("__debug__" : Str)) = false := by decide) : DE X W (.Name x pos) (eRet (.str z)) :=
  de_gl (v := .str z) (h.elim fun t h => ⟨_, h, t, rfl⟩) (fun _ => ⟨rfl, hz⟩) hg hd
/-- a deep value handed on -/
def eD (f : EF D) : EF AV := eBind f fun d => eRet (.d d)
theorem dv_of {e : Expr} {f : EF D} (h : DE X W e f) : DV X W e (eD f) := by
  refine pe_imp h ?_
  rintro σ H Q ⟨S, env, a⟩
  exact ⟨S, env, (At.bind (R := RD X.K) a).imp fun v H' ⟨d, S1, e1, r, st, a1⟩ => a1.ret r⟩
/-! ### two in a row -/
def e2 {α β γ : Type} (fa : EF α) (fb : EF β) (g : α → β → EF γ) : EF γ := eBind fa fun x => eBind fb fun y => g x y
theorem de_op {op : Operator} {r : R2} {a b : Expr} {fa fb : EF AV} {g : AV → AV → EF D} {pos : Pos} (ho : OpR X (binaryOp op) r) (ha : DV X W a fa) (hb : DV X W b fb)
    (h : ∀ S env σ H Q x y vx vy, RA X.K σ S x vx → RA X.K σ S y vy → At X.K W (RD X.K) (g x y) S env σ H Q → r vx vy H Q) : DE X W (.BinOp a op b pos) (e2 fa fb g) := by
  refine pe_imp (pe_op ho ha hb) ?_
  rintro σ H Q ⟨S, env, z⟩
  refine ⟨S, env, (At.bind (R := RAv X.K) z).imp fun vx H1 ⟨x, S1, e1, rx, st, z1⟩ => ?_⟩
  refine ⟨S1, e1, (At.bind (R := RAv X.K) z1).imp fun vy H2 ⟨y, S2, e2, ry, st2, z2⟩ => ?_⟩
  exact h S2 e2 σ H2 Q x y vx vy (rx.mono st2.le) ry z2
theorem de_cmp {op : CmpOp} {r : R2} {a b : Expr} {fa fb : EF AV} {g : AV → AV → EF D} {pos : Pos} (ho : OpR X (compareOp op) r) (hm : behindInMarks op b = false) (ha : DV X W a fa) (hb : DV X W b fb)
    (h : ∀ S env σ H Q x y vx vy, RA X.K σ S x vx → RA X.K σ S y vy → At X.K W (RD X.K) (g x y) S env σ H Q → r vx vy H Q) : DE X W (.Compare a [op] [b] pos) (e2 fa fb g) := by
  refine pe_imp (pe_cmpR ho ha hb hm) ?_
  rintro σ H Q ⟨S, env, z⟩
  refine ⟨S, env, (At.bind (R := RAv X.K) z).imp fun vx H1 ⟨x, S1, e1, rx, st, z1⟩ => ?_⟩
  refine ⟨S1, e1, (At.bind (R := RAv X.K) z1).imp fun vy H2 ⟨y, S2, e2, ry, st2, z2⟩ => ?_⟩
  exact h S2 e2 σ H2 Q x y vx vy (rx.mono st2.le) ry z2
/-! ### tests -/
def asB : D → EF Bool
  | .bl b => eRet b
  | _ => fun _ => none
def eT (f : EF D) : EF Bool := eBind f asB
theorem asB_of {K : PySem.W.Frag} {R : RR Bool Bool} {d : D} {v : V} {S : Hp} {env : ME} {σ : St} {H : Hp} {Q : Bool → Hp → Prop} (r : Rep K S d v) (z : At K W RB (asB d) S env σ H Q) : ∃ c, v = .bl c ∧ Q c H := by
  cases d with
  | bl b => exact ⟨b, r, At.ret (R := RB) z rfl⟩
  | _ =>
    obtain ⟨_, _, _, e, _⟩ := z
    cases e
theorem dt_val {e : Expr} {f : EF D} (h : DE X W e f) (he : ∀ whole, isTrue e X.env whole = (do let v ← whole; standAt e.pos; holding [v] (truthy v)) := by intro _; rfl) : DT X W e (eT f) := by
  refine pt_imp (pt_val h he) ?_
  rintro σ H Q ⟨S, env, z⟩
  exact ⟨S, env, (At.bind (R := RD X.K) z).imp fun v H1 ⟨d, S1, e1, r, st, z1⟩ => asB_of (R := RB) r z1⟩
theorem dt_cmp {op : CmpOp} {r : R2} {a b : Expr} {fa fb : EF AV} {g : AV → AV → EF D} {pos : Pos} (ho : OpR X (compareOp op) r) (hm : behindInMarks op b = false) (ha : DV X W a fa) (hb : DV X W b fb)
    (h : ∀ S env σ H Q x y vx vy, RA X.K σ S x vx → RA X.K σ S y vy → At X.K W (RD X.K) (g x y) S env σ H Q → r vx vy H Q) : DT X W (.Compare a [op] [b] pos) (eT (e2 fa fb g)) := by
  refine pt_imp (pt_cmpR ho ha hb hm) ?_
  rintro σ H Q ⟨S, env, z⟩
  have z0 := At.bind (R := RD X.K) z
  refine ⟨S, env, (At.bind (R := RAv X.K) z0).imp fun vx H1 ⟨x, S1, e1, rx, st, z1⟩ => ?_⟩
  refine ⟨S1, e1, (At.bind (R := RAv X.K) z1).imp fun vy H2 ⟨y, S2, e2, ry, st2, z2⟩ => ?_⟩
  exact h S2 e2 σ H2 _ x y vx vy (rx.mono st2.le) ry (z2.imp fun v H' ⟨d, S1, e1, r, st, z1⟩ => asB_of (R := RB) r z1)
def eAnd (f g : EF Bool) : EF Bool := eBind f fun b => match b with
  | true => g
  | false => eRet false
def eOr (f g : EF Bool) : EF Bool := eBind f fun b => match b with
  | true => eRet true
  | false => g
def eNot (f : EF Bool) : EF Bool := eBind f fun b => eRet (!b)
theorem dt_not {a : Expr} {f : EF Bool} {pos : Pos} (h : DT X W a f) : DT X W (.UnaryOp .Not a pos) (eNot f) := by
  refine pt_imp (pt_not h) ?_
  rintro σ H Q ⟨S, env, z⟩
  exact ⟨S, env, (At.bind (R := RB) z).imp fun v H1 ⟨d, S1, e1, r, st, z1⟩ => by
    have r' : d = v := r
    subst r'
    exact z1.ret rfl⟩
theorem dw_and1 {a : Expr} {f : EF Bool} {pos : Pos} (h : DT X W a f) : DW X W (.BoolOp .And [a] pos) f := pw_and1 h
theorem dw_or1 {a : Expr} {f : EF Bool} {pos : Pos} (h : DT X W a f) : DW X W (.BoolOp .Or [a] pos) f := pw_or1 h
theorem dw_and {a b : Expr} {rest : List Expr} {f g : EF Bool} {pos : Pos} (ha : DT X W a f) (hb : DW X W (.BoolOp .And (b :: rest) pos) g) : DW X W (.BoolOp .And (a :: b :: rest) pos) (eAnd f g) := by
  refine pw_imp (pw_and ha hb) ?_
  rintro σ H Q ⟨S, env, z⟩
  refine ⟨S, env, (At.bind (R := RB) z).imp fun v H1 ⟨d, S1, e1, r, st, z1⟩ => ?_⟩
  have r' : d = v := r
  subst r'
  cases d with
  | true => exact ⟨S1, e1, z1⟩
  | false => exact z1.ret rfl
theorem dw_or {a b : Expr} {rest : List Expr} {f g : EF Bool} {pos : Pos} (ha : DT X W a f) (hb : DW X W (.BoolOp .Or (b :: rest) pos) g) : DW X W (.BoolOp .Or (a :: b :: rest) pos) (eOr f g) := by
  refine pw_imp (pw_or ha hb) ?_
  rintro σ H Q ⟨S, env, z⟩
  refine ⟨S, env, (At.bind (R := RB) z).imp fun v H1 ⟨d, S1, e1, r, st, z1⟩ => ?_⟩
  have r' : d = v := r
  subst r'
  cases d with
  | true => exact z1.ret rfl
  | false => exact ⟨S1, e1, z1⟩
theorem dt_w {e : Expr} {f : EF Bool} (h : DW X W e f) : DT X W e f := PW.pt h
/-! .. as values -/
def eAndV (f g : EF D) : EF D := eBind f fun d => match d with
  | .bl true => g
  | .bl false => eRet (.bl false)
  | _ => fun _ => none
def eOrV (f g : EF D) : EF D := eBind f fun d => match d with
  | .bl true => eRet (.bl true)
  | .bl false => g
  | _ => fun _ => none
def eNotV (f : EF D) : EF D := eBind f fun d => match d with
  | .bl b => eRet (.bl (!b))
  | _ => fun _ => none
theorem de_one {op} {a : Expr} {f : EF D} {pos : Pos} (h : DE X W a f) : DE X W (.BoolOp op [a] pos) f := pe_one h
theorem de_and {a b : Expr} {rest : List Expr} {f g : EF D} {pos : Pos} (ha : DE X W a f) (hb : DE X W (.BoolOp .And (b :: rest) pos) g) : DE X W (.BoolOp .And (a :: b :: rest) pos) (eAndV f g) := by
  refine pe_imp (pe_and ha hb) ?_
  rintro σ H Q ⟨S, env, z⟩
  refine ⟨S, env, (At.bind (R := RD X.K) z).imp fun v H1 ⟨d, S1, e1, r, st, z1⟩ => ?_⟩
  cases d with
  | bl c =>
    refine ⟨c, r, ?_⟩
    cases c with
    | true => exact ⟨S1, e1, z1⟩
    | false => exact z1.ret rfl
  | _ =>
    obtain ⟨_, _, _, e, _⟩ := z1
    cases e
theorem de_or {a b : Expr} {rest : List Expr} {f g : EF D} {pos : Pos} (ha : DE X W a f) (hb : DE X W (.BoolOp .Or (b :: rest) pos) g) : DE X W (.BoolOp .Or (a :: b :: rest) pos) (eOrV f g) := by
  refine pe_imp (pe_or ha hb) ?_
  rintro σ H Q ⟨S, env, z⟩
  refine ⟨S, env, (At.bind (R := RD X.K) z).imp fun v H1 ⟨d, S1, e1, r, st, z1⟩ => ?_⟩
  cases d with
  | bl c =>
    refine ⟨c, r, ?_⟩
    cases c with
    | true => exact z1.ret rfl
    | false => exact ⟨S1, e1, z1⟩
  | _ =>
    obtain ⟨_, _, _, e, _⟩ := z1
    cases e
theorem de_not {a : Expr} {f : EF D} {pos : Pos} (h : DE X W a f) : DE X W (.UnaryOp .Not a pos) (eNotV f) := by
  refine pe_imp (pe_not h) ?_
  rintro σ H Q ⟨S, env, z⟩
  refine ⟨S, env, (At.bind (R := RD X.K) z).imp fun v H1 ⟨d, S1, e1, r, st, z1⟩ => ?_⟩
  cases d with
  | bl c => exact ⟨c, r, z1.ret rfl⟩
  | _ =>
    obtain ⟨_, _, _, e, _⟩ := z1
    cases e
def eIf {α : Type} (t : EF Bool) (f g : EF α) : EF α := eBind t fun b => match b with
  | true => f
  | false => g
theorem de_if {c a b : Expr} {t : EF Bool} {f g : EF D} {pos : Pos} (hc : DT X W c t) (ha : DE X W a f) (hb : DE X W b g) : DE X W (.IfExp c a b pos) (eIf t f g) := by
  refine pe_imp (pe_ifExp hc ha hb) ?_
  rintro σ H Q ⟨S, env, z⟩
  refine ⟨S, env, (At.bind (R := RB) z).imp fun v H1 ⟨d, S1, e1, r, st, z1⟩ => ?_⟩
  have r' : d = v := r
  subst r'
  cases d with
  | true => exact iteT ⟨S1, e1, z1⟩
  | false => exact iteF ⟨S1, e1, z1⟩
/-! ### arguments -/
def eCons (f : EF AV) (g : EF (List AV)) : EF (List AV) := eBind f fun x => eBind g fun y => eRet (x :: y)
end
end Mir

namespace Mir
open PySem PySem.Spec PyProof.Rows L2

/-! ## objects lent to a callee -/
def ixs : List AV → List Nat
  | [] => []
  | .d _ :: r => ixs r
  | .own i :: r => i :: ixs r
def lend (env : ME) : List AV → Option (List Sl)
  | [] => some []
  | .d d :: r => match lend env r with
    | some q => some (.v d :: q)
    | none => none
  | .own i :: r => match env[i]? with
    | some (some s) => match s.mo with
      | some m => match lend env r with
        | some q => some (.b m :: q)
        | none => none
      | none => none
    | _ => none
def putB (env : ME) : List AV → List Sl → ME
  | [], _ => env
  | .d _ :: r, _ :: q => putB env r q
  | .own i :: r, .b m :: q => match env[i]? with
    | some (some s) => (putB env r q).set i (some (s.put m))
    | _ => putB env r q
  | .own _ :: r, _ :: q => putB env r q
  | _ :: _, [] => env
theorem putB_len (env : ME) : ∀ (as : List AV) (q : List Sl), (putB env as q).length = env.length
  | [], q => rfl
  | .d _ :: r, [] => rfl
  | .own _ :: r, [] => rfl
  | .d _ :: r, _ :: q => putB_len env r q
  | .own i :: r, .b m :: q => by
    unfold putB
    split
    · rw [List.length_set]; exact putB_len env r q
    · exact putB_len env r q
  | .own i :: r, .v _ :: q => putB_len env r q
  | .own i :: r, .o _ :: q => putB_len env r q
theorem putB_ne {env : ME} {i : Nat} : ∀ {as : List AV} {q : List Sl}, i ∉ ixs as → (putB env as q)[i]? = env[i]?
  | [], q, h => rfl
  | .d _ :: r, [], h => rfl
  | .own _ :: r, [], h => rfl
  | .d _ :: r, _ :: q, h => putB_ne (as := r) (q := q) h
  | .own j :: r, .b m :: q, h => by
    have h1 : i ≠ j := fun e => h (by unfold ixs; rw [e]; exact List.mem_cons_self)
    have h2 : i ∉ ixs r := fun e => h (by unfold ixs; exact List.mem_cons_of_mem _ e)
    unfold putB
    split
    · rw [List.getElem?_set_ne (Ne.symm h1)]; exact putB_ne h2
    · exact putB_ne h2
  | .own j :: r, .v _ :: q, h => putB_ne (as := r) (q := q) fun e => h (by unfold ixs; exact List.mem_cons_of_mem _ e)
  | .own j :: r, .o _ :: q, h => putB_ne (as := r) (q := q) fun e => h (by unfold ixs; exact List.mem_cons_of_mem _ e)
theorem putB_at {env : ME} {i : Nat} {s : Sl} {m : MO} (hs : env[i]? = some (some s)) : ∀ {as : List AV} {q : List Sl} {j : Nat}, (ixs as).Nodup → as[j]? = some (.own i) → q[j]? = some (.b m) → (putB env as q)[i]? = some (some (s.put m))
  | [], q, j, h, h1, h2 => by simp at h1
  | _ :: r, [], j, h, h1, h2 => by simp at h2
  | a :: r, x :: q, 0, h, h1, h2 => by
    simp at h1 h2
    subst h1
    subst h2
    unfold putB
    rw [hs]
    exact List.getElem?_set_self (by rw [putB_len]; exact lt_of_at hs)
  | a :: r, x :: q, j + 1, h, h1, h2 => by
    simp only [List.getElem?_cons_succ] at h1 h2
    have hr : (ixs r).Nodup := by
      cases a with
      | d d => exact h
      | own k => exact (List.nodup_cons.mp h).2
    have ih := putB_at hs (as := r) (q := q) (j := j) hr h1 h2
    cases a with
    | d d => exact ih
    | own k =>
      have hm : ∀ {l : List AV} {n : Nat}, l[n]? = some (.own i) → i ∈ ixs l := by
        intro l
        induction l with
        | nil => intro n h; simp at h
        | cons y l ihl =>
          intro n h
          cases n with
          | zero => simp at h; subst h; unfold ixs; exact List.mem_cons_self
          | succ n =>
            simp only [List.getElem?_cons_succ] at h
            have := ihl h
            cases y with
            | d d => exact this
            | own z => unfold ixs; exact List.mem_cons_of_mem _ this
      have hk : k ≠ i := fun e => (List.nodup_cons.mp h).1 (e ▸ hm h1)
      cases x with
      | v d => exact ih
      | o z => exact ih
      | b z =>
        unfold putB
        split
        · rw [List.getElem?_set_ne hk]; exact ih
        · exact ih
theorem mem_ixs {i : Nat} : ∀ {l : List AV}, i ∈ ixs l → ∃ n : Nat, l[n]? = some (AV.own i)
  | [], h => by cases h
  | .d d :: l, h => by
    obtain ⟨n, e⟩ := mem_ixs (l := l) h
    exact ⟨n + 1, by simpa using e⟩
  | .own k :: l, h => by
    unfold ixs at h
    rcases List.mem_cons.mp h with e | h
    · exact ⟨0, by simp [e]⟩
    · obtain ⟨n, e⟩ := mem_ixs (l := l) h
      exact ⟨n + 1, by simpa using e⟩
theorem nodup_ixs {i : Nat} : ∀ {l : List AV} {j k : Nat}, (ixs l).Nodup → l[j]? = some (.own i) → l[k]? = some (.own i) → j = k := by
  intro l
  induction l with
  | nil => intro j k _ h; simp at h
  | cons a l ih =>
    intro j k hn h1 h2
    have mem : ∀ {n : Nat}, l[n]? = some (.own i) → i ∈ ixs l := by
      intro n h
      clear ih hn h1 h2
      induction l generalizing n with
      | nil => simp at h
      | cons y l ihl =>
        cases n with
        | zero => simp at h; subst h; unfold ixs; exact List.mem_cons_self
        | succ n =>
          simp only [List.getElem?_cons_succ] at h
          have := ihl h
          cases y with
          | d d => exact this
          | own z => unfold ixs; exact List.mem_cons_of_mem _ this
    cases a with
    | d d =>
      cases j with
      | zero => simp at h1
      | succ j =>
        cases k with
        | zero => simp at h2
        | succ k =>
          simp only [List.getElem?_cons_succ] at h1 h2
          rw [ih hn h1 h2]
    | own z =>
      have hn' := List.nodup_cons.mp hn
      cases j with
      | zero =>
        cases k with
        | zero => rfl
        | succ k =>
          simp at h1
          simp only [List.getElem?_cons_succ] at h2
          exact absurd (mem h2) (h1 ▸ hn'.1)
      | succ j =>
        cases k with
        | zero =>
          simp at h2
          simp only [List.getElem?_cons_succ] at h1
          exact absurd (mem h1) (h2 ▸ hn'.1)
        | succ k =>
          simp only [List.getElem?_cons_succ] at h1 h2
          rw [ih hn'.2 h1 h2]
/-- what a lent list says of its places -/
theorem lend_at {env : ME} : ∀ {as : List AV} {sl : List Sl}, lend env as = some sl → sl.length = as.length ∧ ∀ (j : Nat) (s : Sl), sl[j]? = some s → (∃ d, s = .v d ∧ as[j]? = some (.d d)) ∨ ∃ i m, s = .b m ∧ as[j]? = some (.own i) ∧ Has env i m
  | [], sl, h => by
    cases h
    exact ⟨rfl, fun j s h => by simp at h⟩
  | .d d :: r, sl, h => by
    unfold lend at h
    cases e : lend env r with
    | none => rw [e] at h; cases h
    | some q =>
      rw [e] at h
      cases h
      obtain ⟨h1, h2⟩ := lend_at e
      refine ⟨by simp [h1], fun j s hs => ?_⟩
      cases j with
      | zero => simp at hs; exact .inl ⟨d, hs.symm, rfl⟩
      | succ j => simp only [List.getElem?_cons_succ] at hs ⊢; exact h2 j s hs
  | .own i :: r, sl, h => by
    unfold lend at h
    split at h
    · rename_i s hs
      split at h
      · rename_i m hm
        cases e : lend env r with
        | none => rw [e] at h; cases h
        | some q =>
          rw [e] at h
          cases h
          obtain ⟨h1, h2⟩ := lend_at e
          refine ⟨by simp [h1], fun j s' hs' => ?_⟩
          cases j with
          | zero => simp at hs'; exact .inr ⟨i, m, hs'.symm, rfl, s, hs, hm⟩
          | succ j => simp only [List.getElem?_cons_succ] at hs' ⊢; exact h2 j s' hs'
      · cases h
    · cases h
theorem RAs.len {K : PySem.W.Frag} {σ : St} {S : Hp} : ∀ {as : List AV} {vs : List V}, RAs K σ S as vs → as.length = vs.length
  | [], _, h => by cases h; rfl
  | a :: as, _, h => by
    obtain ⟨v, r, e, p, q⟩ := h
    subst e
    simp [RAs.len q]
theorem RAs.at {K : PySem.W.Frag} {σ : St} {S : Hp} : ∀ {as : List AV} {vs : List V} {j : Nat} {a : AV}, RAs K σ S as vs → as[j]? = some a → ∃ v, vs[j]? = some v ∧ RA K σ S a v
  | [], _, j, a, h, e => by simp at e
  | x :: as, _, 0, a, h, e => by
    obtain ⟨v, r, e1, p, q⟩ := h
    subst e1
    simp at e
    subst e
    exact ⟨v, rfl, p⟩
  | x :: as, _, j + 1, a, h, e => by
    obtain ⟨v, r, e1, p, q⟩ := h
    subst e1
    simp only [List.getElem?_cons_succ] at e ⊢
    exact RAs.at q e
theorem map_at {α : Type} {l : List α} {j : Nat} {x : Option α} (h : (l.map some)[j]? = some x) : ∃ y, x = some y ∧ l[j]? = some y := by
  rw [List.getElem?_map] at h
  cases e : l[j]? with
  | none => rw [e] at h; cases h
  | some y => rw [e] at h; cases h; exact ⟨y, rfl, rfl⟩
theorem map_at' {α : Type} {l : List α} {j : Nat} {y : α} (h : l[j]? = some y) : (l.map some)[j]? = some (some y) := by
  rw [List.getElem?_map, h]; rfl

section
variable {K : PySem.W.Frag} {S S' : Hp} {env : ME} {σ : St} {H H' : Hp} {as : List AV} {vs : List V} {sl sl' : List Sl}
/-- the callee's state at its entry -/
theorem Rel.lent (r : Rel K S env σ H) (ra : RAs K σ S as vs) (hl : lend env as = some sl) (hn : (ixs as).Nodup) : Rel K S (sl.map some) (vs.map some) H := by
  obtain ⟨h1, h2⟩ := lend_at hl
  refine ⟨by simp [h1, ra.len], r.sub, fun j d e => ?_, fun j m e => ?_, fun j k m m' a e1 e2 e3 e4 => ?_⟩
  · obtain ⟨s, es, e⟩ := map_at e
    cases es
    rcases h2 j _ e with ⟨d', ed, ea⟩ | ⟨i, m, ed, _⟩
    · cases ed
      obtain ⟨v, ev, rv⟩ := ra.at ea
      exact ⟨v, map_at' ev, rv⟩
    · cases ed
  · obtain ⟨s, e, em⟩ := e
    obtain ⟨s', es, e⟩ := map_at e
    cases es
    rcases h2 j _ e with ⟨d', ed, ea⟩ | ⟨i, m', ed, ea, hh⟩
    · subst ed; cases em
    · subst ed
      cases em
      obtain ⟨v, ev, rv⟩ := ra.at ea
      obtain ⟨a, o, x1, x2, x3, x4⟩ := r.obj i m hh
      have rv' : σ[i]? = some (some v) := rv
      rw [x1] at rv'
      cases rv'
      exact ⟨a, o, map_at' ev, x2, x3, x4⟩
  · have key : ∀ (j : Nat) (m : MO), Has (sl.map some) j m → (vs.map some)[j]? = some (some (.ref a)) → ∃ i m', as[j]? = some (.own i) ∧ Has env i m' ∧ σ[i]? = some (some (.ref a)) := fun j m e ev => by
      obtain ⟨s, e, em⟩ := e
      obtain ⟨s', es, e⟩ := map_at e
      cases es
      rcases h2 j _ e with ⟨d', ed, ea⟩ | ⟨i, m', ed, ea, hh⟩
      · subst ed; cases em
      · obtain ⟨v, ev', rv⟩ := ra.at ea
        have z := map_at' ev'
        rw [ev] at z
        cases z
        exact ⟨i, m', ea, hh, rv⟩
    obtain ⟨i1, m1, a1, b1, c1⟩ := key j m e1 e3
    obtain ⟨i2, m2, a2, b2, c2⟩ := key k m' e2 e4
    have := r.dis i1 i2 m1 m2 a b1 b2 c1 c2
    subst this
    exact nodup_ixs hn a1 a2
theorem put_mo {s : Sl} {m m' : MO} (h : s.mo = some m) : (s.put m').mo = some m' := by
  cases s with
  | v d => cases h
  | o z => rfl
  | b z => rfl
/-- behind the callee -/
theorem Rel.back (r : Rel K S env σ H) (ra : RAs K σ S as vs) (hl : lend env as = some sl) (hn : (ixs as).Nodup)
    (st : Step K S (sl.map some) (vs.map some) H S' (sl'.map some) (vs.map some) H') : Step K S env σ H S' (putB env as sl') σ H' := by
  obtain ⟨h1, h2⟩ := lend_at hl
  have noO : ∀ b, ¬ OwnO (sl.map some) (vs.map some) b := fun b ⟨j, m, e, _⟩ => by
    obtain ⟨s, es, e⟩ := map_at e
    cases es
    rcases h2 j _ e with ⟨d', ed, _⟩ | ⟨i, m', ed, _⟩ <;> cases ed
  -- a lent place behind the call
  have lentP : ∀ (j i : Nat), as[j]? = some (.own i) → ∃ s m m', env[i]? = some (some s) ∧ s.mo = some m ∧ sl[j]? = some (.b m) ∧ sl'[j]? = some (.b m') := fun j i e => by
    have hj : j < sl.length := by rw [h1]; exact lt_of_at e
    have es : sl[j]? = some sl[j] := List.getElem?_eq_getElem hj
    rcases h2 j _ es with ⟨d', ed, ea⟩ | ⟨i', m, ed, ea, s, hs, hm⟩
    · rw [e] at ea; cases ea
    · rw [e] at ea
      cases ea
      rw [ed] at es
      obtain ⟨⟨m', q1⟩, q2⟩ := st.bor j m (map_at' es)
      obtain ⟨z, ez, q1⟩ := map_at q1
      cases ez
      exact ⟨s, m, m', hs, hm, es, q1⟩
  have at' : ∀ (i : Nat), i ∈ ixs as → ∃ (j : Nat) (s : Sl) (m m' : MO), as[j]? = some (AV.own i) ∧ env[i]? = some (some s) ∧ s.mo = some m ∧ sl[j]? = some (Sl.b m) ∧ sl'[j]? = some (Sl.b m') ∧ (putB env as sl')[i]? = some (some (s.put m')) := fun i hi => by
    obtain ⟨j, e⟩ := mem_ixs hi
    obtain ⟨s, m, m', x1, x2, x3, x4⟩ := lentP j i e
    exact ⟨j, s, m, m', e, x1, x2, x3, x4, putB_at x1 hn e x4⟩
  have ownL : ∀ b, Own (sl.map some) (vs.map some) b → ∃ i, i ∈ ixs as ∧ (∃ m, Has env i m) ∧ σ[i]? = some (some (.ref b)) := fun b ⟨j, m, ⟨s, e, em⟩, ev⟩ => by
    obtain ⟨s', es, e⟩ := map_at e
    cases es
    rcases h2 j _ e with ⟨d', ed, ea⟩ | ⟨i, m', ed, ea, hh⟩
    · subst ed; cases em
    · obtain ⟨v, ev', rv⟩ := ra.at ea
      have z := map_at' ev'
      rw [ev] at z
      cases z
      refine ⟨i, ?_, ⟨m', hh⟩, rv⟩
      have mem : ∀ {l : List AV} {n : Nat}, l[n]? = some (.own i) → i ∈ ixs l := by
        intro l
        induction l with
        | nil => intro n h; simp at h
        | cons y l ihl =>
          intro n h
          cases n with
          | zero => simp at h; subst h; unfold ixs; exact List.mem_cons_self
          | succ n =>
            simp only [List.getElem?_cons_succ] at h
            have := ihl h
            cases y with
            | d d => exact this
            | own z => unfold ixs; exact List.mem_cons_of_mem _ this
      exact mem ea
  have ownC : ∀ b, ¬ Own env σ b → ¬ Own (sl.map some) (vs.map some) b := fun b n h => by
    obtain ⟨i, _, ⟨m, hm⟩, e⟩ := ownL b h
    exact n ⟨i, m, hm, e⟩
  have hasOld : ∀ (i : Nat) (m : MO), Has (putB env as sl') i m → ∃ m0, Has env i m0 := fun i m h => by
    by_cases hi : i ∈ ixs as
    · obtain ⟨j, s, m0, m', _, x1, x2, _⟩ := at' i hi
      exact ⟨m0, s, x1, x2⟩
    · obtain ⟨s, e, em⟩ := h
      rw [putB_ne hi] at e
      exact ⟨m, s, e, em⟩
  refine ⟨⟨by rw [putB_len]; exact r.len, st.rel.sub, fun i d e => ?_, fun i m e => ?_, fun j k m m' a e1 e2 e3 e4 => ?_⟩, st.le, fun b h => ?_, fun b o h n => st.frame b o h (ownC b n), fun i m h => ?_, fun i m h => ?_, fun a h => ?_, rfl⟩
  · by_cases hi : i ∈ ixs as
    · obtain ⟨j, s, m0, m', _, x1, x2, _, _, x5⟩ := at' i hi
      rw [x5] at e
      cases s with
      | v d => cases x2
      | o z => cases e
      | b z => cases e
    · rw [putB_ne hi] at e
      obtain ⟨v, e1, e2⟩ := r.val i d e
      exact ⟨v, e1, Rep.mono st.le _ _ e2⟩
  · by_cases hi : i ∈ ixs as
    · obtain ⟨j, s, m0, m', x0, x1, x2, x3, x4, x5⟩ := at' i hi
      obtain ⟨s', e, em⟩ := e
      rw [x5] at e
      cases e
      rw [put_mo x2] at em
      cases em
      obtain ⟨a, o, y1, y2, y3, y4⟩ := st.rel.obj j m ⟨_, map_at' x4, rfl⟩
      obtain ⟨v, ev, rv⟩ := ra.at x0
      have z := map_at' ev
      rw [y1] at z
      cases z
      exact ⟨a, o, rv, y2, y3, y4⟩
    · obtain ⟨s', e, em⟩ := e
      rw [putB_ne hi] at e
      obtain ⟨a, o, y1, y2, y3, y4⟩ := r.obj i m ⟨s', e, em⟩
      have nown : ¬ Own (sl.map some) (vs.map some) a := fun h => by
        obtain ⟨i', hi', ⟨m', hm'⟩, e'⟩ := ownL a h
        have := r.dis i i' m m' a ⟨s', e, em⟩ hm' y1 e'
        subst this
        exact hi hi'
      refine ⟨a, o, y1, st.frame a o y2 nown, ?_, y4.mono st.le⟩
      cases q : S' a with
      | none => rfl
      | some u =>
        exfalso
        rcases st.fresh a (by rw [q]; exact fun z => nomatch z) with z | z | z
        · exact z y3
        · rw [z] at y2; cases y2
        · exact noO a z
  · obtain ⟨m1, h1'⟩ := hasOld j m e1
    obtain ⟨m2, h2'⟩ := hasOld k m' e2
    exact r.dis j k m1 m2 a h1' h2' e3 e4
  · rcases st.fresh b h with z | z | z
    · exact .inl z
    · exact .inr (.inl z)
    · exact absurd z (noO b)
  · refine ⟨?_, rfl⟩
    by_cases hi : i ∈ ixs as
    · obtain ⟨j, s, m0, m', x0, x1, x2, x3, x4, x5⟩ := at' i hi
      rw [h] at x1
      cases x1
      exact ⟨m', x5⟩
    · exact ⟨m, by rw [putB_ne hi]; exact h⟩
  · by_cases hi : i ∈ ixs as
    · obtain ⟨j, s, m0, m', x0, x1, x2, x3, x4, x5⟩ := at' i hi
      rw [x5] at h
      cases s with
      | v d => cases x2
      | o z => cases h
      | b z => exact ⟨z, x1⟩
    · rw [putB_ne hi] at h
      exact ⟨m, h⟩
  · obtain ⟨i, m, e1, e2⟩ := h
    by_cases hi : i ∈ ixs as
    · obtain ⟨j, s, m0, m', x0, x1, x2, x3, x4, x5⟩ := at' i hi
      rw [x5] at e1
      cases s with
      | v d => cases x2
      | o z => exact .inl ⟨i, z, x1, e2⟩
      | b z => cases e1
    · rw [putB_ne hi] at e1
      exact .inl ⟨i, m, e1, e2⟩
end
end Mir

namespace Mir
open PySem PySem.Spec PyProof.Rows L2
section
variable {X : Cx} {W : WX}
/-! ### arguments -/
theorem da_nil : DA X W [] (eRet []) := by
  refine pa_imp pa_nil ?_
  rintro σ H Q ⟨S, env, z⟩
  exact z.ret rfl
theorem da_cons {e : Expr} {es : List Expr} {f : EF AV} {g : EF (List AV)} (ha : DV X W e f) (hr : DA X W es g) (hs : starEach (e :: es) X.env = (false, eval e X.env) :: starEach es X.env := by rfl) : DA X W (e :: es) (eCons f g) := by
  refine pa_imp (pa_cons ha hr hs) ?_
  rintro σ H Q ⟨S, env, z⟩
  refine ⟨S, env, (At.bind (R := RAv X.K) z).imp fun v H1 ⟨x, S1, e1, r1, st1, z1⟩ => ?_⟩
  refine ⟨S1, e1, (At.bind (R := RAl X.K) z1).imp fun vs H2 ⟨xs, S2, e2, r2, st2, z2⟩ => ?_⟩
  exact z2.ret ⟨v, vs, rfl, r1.mono st2.le, r2⟩
end

/-! ### the promise of a def -/
inductive FR where
  | d (d : D) | o (m : MO)
abbrev MF := List Sl → Option (Res FR × List Sl)
def PostF (K : PySem.W.Frag) (Q : VK) (E : XK) : Res FR → Hp → Hp → Prop
  | .ok (.d d), S', H' => ∀ v, Rep K S' d v → Q v H'
  | .ok (.o m), S', H' => ∀ p o, H' p = none → RepO K S' m o → Q (.ref p) (upd H' p o)
  | .ex x, S', H' => ∀ cls dd, RepX K S' x cls dd H' → E cls dd H'
def NoO (as : List Sl) : Prop := ∀ m, Sl.o m ∉ as
def spM (K : PySem.W.Frag) (n : Nat) (mf : MF) : Sp := fun vs H Q E => ∃ S as r as', as.length = n ∧ NoO as ∧ Rel K S (as.map some) (vs.map some) H ∧ mf as = some (r, as') ∧
  ∀ S' H', Step K S (as.map some) (vs.map some) H S' (as'.map some) (vs.map some) H' → PostF K Q E r S' H'

/-! ### a call -/
def eCall (mf : MF) (fas : EF (List AV)) : EF FR := eBind fas fun as => fun env => if (ixs as).Nodup then match lend env as with
  | some sl => match mf sl with
    | some (.ok r, sl') => some (.ok r, putB env as sl')
    | some (.ex x, sl') => some (.ex x, putB env as sl')
    | none => none
  | none => none
  else none
def eFD (f : EF FR) : EF D := eBind f fun r => match r with
  | .d d => eRet d
  | .o _ => fun _ => none
def eFO (f : EF FR) : EF MO := eBind f fun r => match r with
  | .o m => eRet m
  | .d _ => fun _ => none
theorem lend_noO {env : ME} {as : List AV} {sl : List Sl} (h : lend env as = some sl) : NoO sl := fun m hm => by
  obtain ⟨j, e⟩ := List.mem_iff_getElem?.mp hm
  rcases (lend_at h).2 j _ e with ⟨d, ed, _⟩ | ⟨i, m', ed, _⟩ <;> cases ed
/-- what is wanted of a call's value -/
def PostR (K : PySem.W.Frag) (W : WX) (σ : St) (Q : VK) : Res FR → Hp → Hp → Prop := PostF K Q fun cls dd H => W cls dd σ H
theorem call_sp {K : PySem.W.Frag} {n : Nat} {mf : MF} {S : Hp} {env : ME} {σ : St} {H : Hp} {as : List AV} {vs : List V} {sl sl' : List Sl} {r : Res FR} {Q : VK} {E : XK} (rel : Rel K S env σ H) (ra : RAs K σ S as vs)
    (hn : (ixs as).Nodup) (hl : lend env as = some sl) (hlen : as.length = n) (hm : mf sl = some (r, sl'))
    (q : ∀ S' H', Step K S env σ H S' (putB env as sl') σ H' → PostF K Q E r S' H') : spM K n mf vs H Q E :=
  ⟨S, sl, r, sl', by rw [(lend_at hl).1]; exact hlen, lend_noO hl, rel.lent ra hl hn, hm, fun S' H' st => q S' H' (rel.back ra hl hn st)⟩
/-- a reading whose value may be a new object -/
def AtF (K : PySem.W.Frag) (W : WX) (f : EF FR) (S : Hp) (env : ME) (σ : St) (H : Hp) (Q : VK) : Prop :=
  ∃ r env', Rel K S env σ H ∧ f env = some (r, env') ∧ ∀ S' H', Step K S env σ H S' env' σ H' → PostR K W σ Q r S' H'
def trF (K : PySem.W.Frag) (W : WX) (f : EF FR) : TE := fun σ H Q => ∃ S env, AtF K W f S env σ H Q
/-- an expression that gives a deep value or a new object -/
def DF (X : Cx) (W : WX) (e : Expr) (f : EF FR) : Prop := PE X e (trF X.K W f)
/-- what a call's reading asks -/
theorem AtF.call {K : PySem.W.Frag} {W : WX} {n : Nat} {mf : MF} {fas : EF (List AV)} {S : Hp} {env : ME} {σ : St} {H : Hp} {Q : VK} (h : AtF K W (eCall mf fas) S env σ H Q) (hlen : ∀ e as e', fas e = some (.ok as, e') → as.length = n) :
    At K W (RAl K) fas S env σ H fun vs H1 => spM K n mf vs H1 Q fun cls dd H2 => W cls dd σ H2 := by
  obtain ⟨r, env', rel, e, q⟩ := h
  unfold eCall eBind at e
  cases ef : fas env with
  | none => rw [ef] at e; cases e
  | some p =>
    obtain ⟨r1, e1⟩ := p
    rw [ef] at e
    cases r1 with
    | ex x =>
      have e' : some (Res.ex x, e1) = some (r, env') := e
      cases e'
      exact ⟨.ex x, _, rel, ef, fun S' H' st => q S' H' st⟩
    | ok as =>
      refine ⟨.ok as, e1, rel, ef, fun S1 H1 st vs rv => ?_⟩
      have e' := e
      dsimp only at e'
      split at e'
      · rename_i hn
        split at e'
        · rename_i sl hsl
          split at e'
          · rename_i r0 sl' hm
            cases e'
            exact call_sp st.rel rv hn hsl (hlen _ _ _ ef) hm fun S' H' st' => q S' H' (st.trans st')
          · rename_i x sl' hm
            cases e'
            exact call_sp st.rel rv hn hsl (hlen _ _ _ ef) hm fun S' H' st' => q S' H' (st.trans st')
          · cases e'
        · cases e'
      · cases e'
/-- the number of arguments -/
def Len (fas : EF (List AV)) (n : Nat) : Prop := ∀ e as e', fas e = some (.ok as, e') → as.length = n
theorem Len.nil : Len (eRet []) 0 := fun e as e' h => by cases h; rfl
theorem Len.cons {f : EF AV} {g : EF (List AV)} {n : Nat} (h : Len g n) : Len (eCons f g) (n + 1) := fun e as e' z => by
  unfold eCons eBind at z
  split at z
  · rename_i a e1 h1
    dsimp only at z
    split at z
    · rename_i b e2 h2
      cases z
      rw [List.length_cons, h _ _ _ h2]
    · cases z
    · cases z
  · cases z
  · cases z
section
variable {X : Cx} {W : WX}
theorem df_call {k j n : Nat} {f : Addr} {fd : FuncData} {ps : List Str} {mf : MF} {x : Str} {p pos : Pos} {e : Expr} {es : List Expr} {fas : EF (List AV)} (tk : Takes X W) (F : FnOk X.prog X.w X.K X.mg X.base (L2.CX X.prog X.w) k f fd ps (spM X.K n mf)) (hm : X.mg x = some (.ref f)) (hk : PySem.W.keepIn X.K (.ref f) = true) (hb : Binds X.K fd ps [])
    (hr : Room j X.A) (hj : k ≤ j) (ha : DA X W (e :: es) fas) (hlen : Len fas n)
    (hg : Gl X x := by rfl) (hdb : (x == ("__debug__" : Str)) = false := by decide) (he : starEach (e :: es) X.env = (false, eval e X.env) :: starEach es X.env := by rfl) (hpl : (backTo pos (starEach es X.env)).any (·.1) = false := by rfl) :
    DF X W (.Call (.Name x p) (e :: es) [] pos) (eCall mf fas) := by
  refine pe_imp (pe_callS F (hr.mono hj) hg hm hk hb (fun σ => passAt tk σ) ha hdb he hpl) ?_
  rintro σ H Q ⟨S, env, z⟩
  exact ⟨S, env, z.call hlen⟩
/-- its deep value -/
theorem de_df {e : Expr} {f : EF FR} (h : DF X W e f) : DE X W e (eFD f) := by
  refine pe_imp h ?_
  rintro σ H Q ⟨S, env, r, env', rel, ef, q⟩
  unfold eFD eBind at ef
  refine ⟨S, env, ?_⟩
  split at ef
  · rename_i a e1 h1
    cases a with
    | d d =>
      cases ef
      exact ⟨_, _, rel, h1, q⟩
    | o m => cases ef
  · rename_i x e1 h1
    cases ef
    exact ⟨_, _, rel, h1, q⟩
  · cases ef
/-- a new object, left to itself at once -/
def eFz (f : EF FR) : EF D := eBind f fun r => match r with
  | .d d => eRet d
  | .o m => eRet m.d
theorem de_fz {e : Expr} {f : EF FR} (h : DF X W e f) : DE X W e (eFz f) := by
  refine pe_imp h ?_
  rintro σ H Q ⟨S, env, r, env', rel, ef, q⟩
  unfold eFz eBind at ef
  refine ⟨S, env, ?_⟩
  split at ef
  · rename_i a e1 h1
    cases a with
    | d d =>
      cases ef
      exact ⟨_, _, rel, h1, q⟩
    | o m =>
      cases ef
      refine ⟨_, _, rel, h1, fun S' H' st p o hp ho => ?_⟩
      have al := st.rel.alloc (o := o) hp
      exact q _ _ (st.trans al) _ ((ho.mono al.le).rep upd_same)
  · rename_i x e1 h1
    cases ef
    exact ⟨_, _, rel, h1, q⟩
  · cases ef
/-! ### displays -/
def ds : List AV → Option (List D)
  | [] => some []
  | .d d :: r => match ds r with
    | some q => some (d :: q)
    | none => none
  | .own _ :: _ => none
theorem reps_of {K : PySem.W.Frag} {σ : St} {S : Hp} : ∀ {as : List AV} {vs : List V} {l : List D}, RAs K σ S as vs → ds as = some l → Reps K S l vs ∧ l.length = as.length
  | [], _, l, h, e => by cases e; exact ⟨h, rfl⟩
  | .d d :: r, _, l, h, e => by
    obtain ⟨v, vs, ev, h1, h2⟩ := h
    unfold ds at e
    cases q : ds r with
    | none => rw [q] at e; cases e
    | some z =>
      rw [q] at e
      cases e
      obtain ⟨y1, y2⟩ := reps_of h2 q
      exact ⟨⟨v, vs, ev, h1, y1⟩, by simp [y2]⟩
  | .own i :: r, _, l, h, e => by cases e
def eLst (fas : EF (List AV)) : EF FR := eBind fas fun as => match ds as with
  | some l => if l.length ≤ sizeLine then eRet (.o (.lst l)) else fun _ => none
  | none => fun _ => none
def eTup (fas : EF (List AV)) : EF D := eBind fas fun as => match ds as with
  | some l => if l.length ≤ sizeLine then eRet (.tup l) else fun _ => none
  | none => fun _ => none
theorem Reps.len {K : PySem.W.Frag} {S : Hp} : ∀ {l : List D} {vs : List V}, Reps K S l vs → l.length = vs.length
  | [], _, h => by cases h; rfl
  | a :: as, _, h => by
    obtain ⟨v, r, e, p, q⟩ := h
    subst e
    simp [Reps.len q]
theorem df_lst {es : List Expr} {fas : EF (List AV)} {pos : Pos} (h : DA X W es fas) : DF X W (.List es pos) (eLst fas) := by
  refine pe_imp (pe_lst h) ?_
  rintro σ H Q ⟨S, env, r, env', rel, ef, q⟩
  unfold eLst eBind at ef
  refine ⟨S, env, ?_⟩
  cases ea : fas env with
  | none => rw [ea] at ef; cases ef
  | some p =>
    obtain ⟨r1, e1⟩ := p
    rw [ea] at ef
    cases r1 with
    | ex x =>
      have ef' : some (Res.ex x, e1) = some (r, env') := ef
      cases ef'
      exact ⟨_, _, rel, ea, q⟩
    | ok as =>
      refine ⟨_, _, rel, ea, fun S1 H1 st vs rv => ?_⟩
      have ef' : (match ds as with
        | some l => if l.length ≤ sizeLine then eRet (FR.o (.lst l)) else fun _ => none
        | none => fun _ => none) e1 = some (r, env') := ef
      cases hl : ds as with
      | none => rw [hl] at ef'; cases ef'
      | some l =>
        rw [hl] at ef'
        dsimp only at ef'
        split at ef'
        · rename_i hz
          cases ef'
          obtain ⟨h1, h2⟩ := reps_of rv hl
          exact ⟨by rw [← h1.len]; exact hz, fun p hp => q S1 H1 st p _ hp ⟨vs, rfl, hz, h1⟩⟩
        · cases ef'
theorem de_tup {es : List Expr} {fas : EF (List AV)} {k : Nat} {pos : Pos} (h : DA X W es fas) : DE X W (.Tuple es k pos) (eTup fas) := by
  refine pe_imp (pe_tup h) ?_
  rintro σ H Q ⟨S, env, z⟩
  refine ⟨S, env, (At.bind (R := RAl X.K) z).imp fun vs H1 ⟨as, S1, e1, rv, st, z1⟩ => ?_⟩
  cases hl : ds as with
  | none =>
    rw [hl] at z1
    obtain ⟨_, _, _, e, _⟩ := z1
    cases e
  | some l =>
    rw [hl] at z1
    dsimp only at z1
    split at z1
    · rename_i hz
      obtain ⟨h1, h2⟩ := reps_of rv hl
      refine ⟨by rw [← h1.len]; exact hz, fun p hp => ?_⟩
      have al := z1.rel.alloc (o := .tup vs) hp
      exact z1.ret' al ⟨p, vs, rfl, .inl upd_same, hz, Reps.mono al.le _ _ h1⟩
    · obtain ⟨_, _, _, e, _⟩ := z1
      cases e
end
end Mir

namespace Mir
open PySem PySem.Spec PyProof.Rows L2

/-! ## statements -/
inductive Out where
  | nx | ret (r : FR) | brk | cnt | ex (x : Ex)
abbrev SF := ME → Option (Out × ME)
def PostS (K : PySem.W.Frag) (W : WX) (Dn : Ends) : Out → Hp → St → Hp → Prop
  | .nx, _, σ', H' => Dn.nx σ' H'
  | .brk, _, σ', H' => Dn.bk σ' H'
  | .cnt, _, σ', H' => Dn.ct σ' H'
  | .ret r, S', _, H' => PostF K Dn.rt (fun _ _ _ => False) (.ok r) S' H'
  | .ex x, S', σ', H' => ∀ cls dd, RepX K S' x cls dd H' → W cls dd σ' H'
def AtS (K : PySem.W.Frag) (W : WX) (f : SF) (S : Hp) (env : ME) (σ : St) (H : Hp) (Dn : Ends) : Prop :=
  ∃ o env', Rel K S env σ H ∧ f env = some (o, env') ∧ ∀ S' σ' H', Step K S env σ H S' env' σ' H' → PostS K W Dn o S' σ' H'
def trS (K : PySem.W.Frag) (W : WX) (f : SF) : TS := fun Dn σ H => ∃ S env, AtS K W f S env σ H Dn
def DS (X : Cx) (W : WX) (st : Stmt) (f : SF) : Prop := PS X st (trS X.K W f)
def DB (X : Cx) (W : WX) (st : List Stmt) (f : SF) : Prop := PSs X st (trS X.K W f)

def sNx : SF := fun e => some (.nx, e)
def sSeq (f g : SF) : SF := fun e => match f e with
  | some (.nx, e1) => g e1
  | r => r
section
variable {K : PySem.W.Frag} {W : WX} {S : Hp} {env : ME} {σ : St} {H : Hp} {f g : SF} {Dn : Ends}
theorem AtS.seq (h : AtS K W (sSeq f g) S env σ H Dn) : AtS K W f S env σ H { Dn with nx := trS K W g Dn } := by
  obtain ⟨o, env', rel, e, q⟩ := h
  unfold sSeq at e
  cases ef : f env with
  | none => rw [ef] at e; cases e
  | some p =>
    obtain ⟨o1, e1⟩ := p
    rw [ef] at e
    refine ⟨o1, e1, rel, ef, fun S1 σ1 H1 st => ?_⟩
    cases o1 with
    | nx =>
      have e' : g e1 = some (o, env') := e
      exact ⟨S1, e1, o, env', st.rel, e', fun S' σ' H' st' => q S' σ' H' (st.trans st')⟩
    | ret r =>
      have e' : some (Out.ret r, e1) = some (o, env') := e
      cases e'
      exact q S1 σ1 H1 st
    | brk =>
      have e' : some (Out.brk, e1) = some (o, env') := e
      cases e'
      exact q S1 σ1 H1 st
    | cnt =>
      have e' : some (Out.cnt, e1) = some (o, env') := e
      cases e'
      exact q S1 σ1 H1 st
    | ex x =>
      have e' : some (Out.ex x, e1) = some (o, env') := e
      cases e'
      exact q S1 σ1 H1 st
/-- an expression, then a statement's end -/
def sBind {α : Type} (f : EF α) (g : α → SF) : SF := fun e => match f e with
  | some (.ok a, e1) => g a e1
  | some (.ex x, e1) => some (.ex x, e1)
  | none => none
theorem AtS.bind {α β : Type} {R : RR α β} {f : EF α} {g : α → SF} (h : AtS K W (sBind f g) S env σ H Dn) :
    At K W R f S env σ H (fun b H1 => ∃ a S1 env1, R σ S1 a b ∧ Step K S env σ H S1 env1 σ H1 ∧ AtS K W (g a) S1 env1 σ H1 Dn) := by
  obtain ⟨o, env', rel, e, q⟩ := h
  unfold sBind at e
  cases ef : f env with
  | none => rw [ef] at e; cases e
  | some p =>
    obtain ⟨r1, e1⟩ := p
    rw [ef] at e
    cases r1 with
    | ex x =>
      have e' : some (Out.ex x, e1) = some (o, env') := e
      cases e'
      exact ⟨.ex x, _, rel, ef, fun S' H' st => q S' σ H' st⟩
    | ok a =>
      have e' : g a e1 = some (o, env') := e
      exact ⟨.ok a, e1, rel, ef, fun S1 H1 st b rb => ⟨a, S1, e1, rb, st, o, env', st.rel, e', fun S' σ' H' st' => q S' σ' H' (st.trans st')⟩⟩
theorem AtS.end {f : SF} {o : Out} {env' : ME} (h : AtS K W f S env σ H Dn) (hf : f env = some (o, env')) {S' : Hp} {σ' : St} {H' : Hp} (st : Step K S env σ H S' env' σ' H') : PostS K W Dn o S' σ' H' := by
  obtain ⟨o', e', rel, e, q⟩ := h
  rw [hf] at e
  cases e
  exact q S' σ' H' st
end
section
variable {X : Cx} {W : WX}
theorem db_nil : DB X W [] sNx := by
  refine pss_imp pss_nil ?_
  rintro Dn σ H ⟨S, env, z⟩
  exact z.end rfl z.choose_spec.choose_spec.1.step
theorem db_cons {st : Stmt} {rest : List Stmt} {f g : SF} (h1 : DS X W st f) (h2 : DB X W rest g) : DB X W (st :: rest) (sSeq f g) := by
  refine pss_imp (pss_cons h1 h2) ?_
  rintro Dn σ H ⟨S, env, z⟩
  exact ⟨S, env, z.seq⟩
theorem db_one {st : Stmt} {f : SF} (h1 : DS X W st f) : DB X W [st] f := pss_one h1
theorem ds_pass {pos : Pos} : DS X W (.Pass pos) sNx := by
  refine ps_imp ps_pass ?_
  rintro Dn σ H ⟨S, env, z⟩
  exact z.end rfl z.choose_spec.choose_spec.1.step
theorem ds_doc {x j pos pos'} : DS X W (.Expr (.Constant (.str x) j pos) pos') sNx := by
  refine ps_imp ps_doc ?_
  rintro Dn σ H ⟨S, env, z⟩
  exact z.end rfl z.choose_spec.choose_spec.1.step
def sCnt : SF := fun e => some (.cnt, e)
def sBrk : SF := fun e => some (.brk, e)
theorem ds_continue {pos : Pos} : DS X W (.Continue pos) sCnt := by
  refine ps_imp ps_continue ?_
  rintro Dn σ H ⟨S, env, z⟩
  exact z.end rfl z.choose_spec.choose_spec.1.step
theorem ds_break {pos : Pos} : DS X W (.Break pos) sBrk := by
  refine ps_imp ps_break ?_
  rintro Dn σ H ⟨S, env, z⟩
  exact z.end rfl z.choose_spec.choose_spec.1.step
/-- an expression whose value is dropped -/
def sDo (f : EF D) : SF := sBind f fun _ => sNx
theorem ds_do {e : Expr} {f : EF D} {pos : Pos} (h : DE X W e f) (hs : swapsWith e none pos.line X.env = pure false := by rfl) : DS X W (.Expr e pos) (sDo f) := by
  refine ps_imp (ps_expr h hs) ?_
  rintro Dn σ H ⟨S, env, z⟩
  exact ⟨S, env, (AtS.bind (R := RD X.K) z).imp fun v H1 ⟨a, S1, e1, _, st, z1⟩ => z1.end rfl z1.choose_spec.choose_spec.1.step⟩
def isB (env : ME) (i : Nat) : Bool := match env[i]? with
  | some (some (.b _)) => true
  | _ => false
theorem notB_of {env : ME} {i : Nat} (h : isB env i = false) : NotB env i := fun m e => by
  unfold isB at h
  rw [e] at h
  cases h
/-- name = value -/
def putV (i : Nat) (d : D) : SF := fun e => if isB e i then none else some (.nx, e.set i (some (.v d)))
def sSet (i : Nat) (f : EF D) : SF := sBind f (putV i)
theorem putV_end {K : PySem.W.Frag} {W : WX} {S : Hp} {env : ME} {σ : St} {H : Hp} {Dn : Ends} {i : Nat} {d : D} {v : V} (z : AtS K W (putV i d) S env σ H Dn) (r : Rep K S d v) : Dn.nx (σ.set i (some v)) H := by
  obtain ⟨o, e', rel, e, q⟩ := z
  unfold putV at e
  cases hb : isB env i with
  | true => rw [hb] at e; cases e
  | false =>
    rw [hb] at e
    cases e
    exact q _ _ _ (rel.setV (notB_of hb) r)
theorem ds_set (i : Nat) {x : Str} {e : Expr} {f : EF D} {pos pos' : Pos} (hN : X.N.Nodup) (he : DE X W e f) (hi : X.N[i]? = some x := by rfl) (hx : Loc X.env.scope x := by first | exact Or.inl rfl | exact Or.inr rfl)
    (hs : swapsWith e (some (.Name x pos')) pos.line X.env = pure false := by rfl) (hf : X.fn x = true ∨ X.env.scope.names.lookup x = some .local := by first | exact .inl rfl | exact .inr rfl | assumption) : DS X W (.Assign [.Name x pos'] e pos) (sSet i f) := by
  refine ps_imp (ps_set hN hi hx he hs hf) ?_
  rintro Dn σ H ⟨S, env, z⟩
  exact ⟨S, env, (AtS.bind (R := RD X.K) z).imp fun v H1 ⟨a, S1, e1, r, st, z1⟩ => putV_end z1 r⟩
/-- name = value or a new object, which the name then owns -/
def putF (i : Nat) : FR → SF
  | .d d => putV i d
  | .o m => fun e => if isB e i then none else some (.nx, e.set i (some (.o m)))
def sSetF (i : Nat) (f : EF FR) : SF := sBind f (putF i)
/-- .. an end whose value is told as PostF tells it -/
theorem trF_bind {K : PySem.W.Frag} {W : WX} {S : Hp} {env : ME} {σ : St} {H : Hp} {Dn : Ends} {f : EF FR} {g : FR → SF} {Q : VK} (z : AtS K W (sBind f g) S env σ H Dn)
    (h : ∀ r S1 e1 H1, AtS K W (g r) S1 e1 σ H1 Dn → PostF K Q (fun _ _ _ => False) (.ok r) S1 H1) : trF K W f σ H Q := by
  obtain ⟨o, env', rel, e, q⟩ := z
  unfold sBind at e
  refine ⟨S, env, ?_⟩
  cases ef : f env with
  | none => rw [ef] at e; cases e
  | some p =>
    obtain ⟨r1, e1⟩ := p
    rw [ef] at e
    cases r1 with
    | ex x =>
      have e' : some (Out.ex x, e1) = some (o, env') := e
      cases e'
      exact ⟨.ex x, _, rel, ef, fun S' H' st => q S' σ H' st⟩
    | ok a =>
      have e' : g a e1 = some (o, env') := e
      refine ⟨.ok a, e1, rel, ef, fun S1 H1 st => ?_⟩
      have := h a S1 e1 H1 ⟨o, env', st.rel, e', fun S' σ' H' st' => q S' σ' H' (st.trans st')⟩
      cases a with
      | d d => exact this
      | o m => exact this
theorem putF_end {K : PySem.W.Frag} {W : WX} {S : Hp} {env : ME} {σ : St} {H : Hp} {Dn : Ends} {i : Nat} {r : FR} (z : AtS K W (putF i r) S env σ H Dn) : PostF K (fun v H' => Dn.nx (σ.set i (some v)) H') (fun _ _ _ => False) (.ok r) S H := by
  cases r with
  | d d => exact fun v r => putV_end z r
  | o m =>
    intro p o hp ho
    obtain ⟨o', e', rel, e, q⟩ := z
    unfold putF at e
    dsimp only at e
    cases hb : isB env i with
    | true => rw [hb] at e; cases e
    | false =>
      rw [hb] at e
      cases e
      exact q _ _ _ (rel.setO (notB_of hb) hp ho)
theorem ds_setF (i : Nat) {x : Str} {e : Expr} {f : EF FR} {pos pos' : Pos} (hN : X.N.Nodup) (he : DF X W e f) (hi : X.N[i]? = some x := by rfl) (hx : Loc X.env.scope x := by first | exact Or.inl rfl | exact Or.inr rfl)
    (hs : swapsWith e (some (.Name x pos')) pos.line X.env = pure false := by rfl) (hf : X.fn x = true ∨ X.env.scope.names.lookup x = some .local := by first | exact .inl rfl | exact .inr rfl | assumption) : DS X W (.Assign [.Name x pos'] e pos) (sSetF i f) := by
  refine ps_imp (ps_set hN hi hx he hs hf) ?_
  rintro Dn σ H ⟨S, env, z⟩
  exact trF_bind z fun r S1 e1 H1 z1 => putF_end z1
/-- return e -/
def sRet (f : EF FR) : SF := sBind f fun r e => some (.ret r, e)
theorem ds_ret {e : Expr} {f : EF FR} {pos : Pos} (he : DF X W e f) : DS X W (.Return (some e) pos) (sRet f) := by
  refine ps_imp (ps_ret he) ?_
  rintro Dn σ H ⟨S, env, z⟩
  exact trF_bind z fun r S1 e1 H1 z1 => z1.end rfl z1.choose_spec.choose_spec.1.step
def eDF (f : EF D) : EF FR := eBind f fun d => eRet (.d d)
theorem df_of {e : Expr} {f : EF D} (h : DE X W e f) : DF X W e (eDF f) := by
  refine pe_imp h ?_
  rintro σ H Q ⟨S, env, r, env', rel, ef, q⟩
  unfold eDF eBind at ef
  refine ⟨S, env, ?_⟩
  cases ea : f env with
  | none => rw [ea] at ef; cases ef
  | some p =>
    obtain ⟨r1, e1⟩ := p
    rw [ea] at ef
    cases r1 with
    | ok a =>
      have ef' : some (Res.ok (FR.d a), e1) = some (r, env') := ef
      cases ef'
      exact ⟨_, _, rel, ea, q⟩
    | ex x =>
      have ef' : some (Res.ex x, e1) = some (r, env') := ef
      cases ef'
      exact ⟨_, _, rel, ea, q⟩
/-- return of a name: its value, or the object that it owns -/
def eOut (i : Nat) : EF FR := fun e => match e[i]? with
  | some (some (.v d)) => some (.ok (.d d), e)
  | some (some (.o m)) => some (.ok (.o m), e.set i none)
  | _ => none
def less (H : Hp) (p : Addr) : Hp := fun b => if b = p then none else H b
theorem less_same {H : Hp} {p : Addr} : less H p p = none := by unfold less; rw [if_pos rfl]
theorem less_ne {H : Hp} {p b : Addr} (h : b ≠ p) : less H p b = H b := by unfold less; rw [if_neg h]
theorem upd_less {H : Hp} {p : Addr} {o : HO} (h : H p = some o) : upd (less H p) p o = H := by
  funext b
  unfold upd less
  by_cases e : b = p
  · subst e; simp [h]
  · simp [e]
/-- an object of one's own is let go -/
theorem Rel.out {K : PySem.W.Frag} {S : Hp} {env : ME} {σ : St} {H : Hp} {i : Nat} {m : MO} {p : Addr} (r : Rel K S env σ H) (hs : env[i]? = some (some (.o m))) (hp : σ[i]? = some (some (.ref p))) :
    Step K S env σ H S (env.set i none) σ (less H p) := by
  obtain ⟨a, o, x1, x2, x3, x4⟩ := r.obj i m ⟨_, hs, rfl⟩
  rw [hp] at x1
  cases x1
  have old : ∀ j m, Has (env.set i none) j m → j ≠ i ∧ Has env j m := fun j m h => by
    rcases has_set h with ⟨_, q, e1, e2⟩ | h
    · cases e1
    · exact h
  have ne : ∀ (j : Nat) (m2 : MO) (b : Addr), j ≠ i → Has env j m2 → σ[j]? = some (some (.ref b)) → b ≠ p := fun j m2 b n h e z => by
    subst z
    exact n (r.dis j i m2 m b h ⟨_, hs, rfl⟩ e hp)
  refine ⟨⟨by simp [r.len], fun b u e => ?_, fun j d' e => ?_, fun j m e => ?_, fun j k m m' a e1 e2 e3 e4 => ?_⟩, Le.refl S, fun b h => .inl h, fun b u e n => ?_, fun j m h => ?_, fun j m h => ?_, fun a h => ?_, rfl⟩
  · have hb : b ≠ p := fun z => by subst z; rw [x3] at e; cases e
    rw [less_ne hb]; exact r.sub b u e
  · by_cases hj : i = j
    · subst hj
      have hl : i < env.length := lt_of_at hs
      rw [List.getElem?_set_self hl] at e
      cases e
    · rw [List.getElem?_set_ne hj] at e
      exact r.val j d' e
  · obtain ⟨n, h⟩ := old j m e
    obtain ⟨b, u, e1, e2, e3, e4⟩ := r.obj j m h
    exact ⟨b, u, e1, by rw [less_ne (ne j m b n h e1)]; exact e2, e3, e4⟩
  · exact r.dis j k m m' a (old j m e1).2 (old k m' e2).2 e3 e4
  · have hb : b ≠ p := fun z => by
      subst z
      exact n ⟨i, m, ⟨_, hs, rfl⟩, hp⟩
    rw [less_ne hb]; exact e
  · have hj : i ≠ j := fun z => by
      subst z
      rw [hs] at h
      cases h
    rw [List.getElem?_set_ne hj]
    exact ⟨⟨m, h⟩, rfl⟩
  · by_cases hj : i = j
    · subst hj
      rw [List.getElem?_set_self (lt_of_at hs)] at h
      cases h
    · rw [List.getElem?_set_ne hj] at h
      exact ⟨m, h⟩
  · obtain ⟨j, m, e1, e2⟩ := h
    by_cases hj : i = j
    · subst hj
      rw [List.getElem?_set_self (lt_of_at hs)] at e1
      cases e1
    · rw [List.getElem?_set_ne hj] at e1
      exact .inl ⟨j, m, e1, e2⟩
theorem df_out (i : Nat) {x : Str} {pos : Pos} (hN : X.N[i]? = some x := by rfl) (hv : Vis X.env.scope x := by first | exact Or.inl rfl | exact Or.inr (Or.inl rfl) | exact Or.inr (Or.inr rfl))
    (hd : (x == ("__debug__" : Str)) = false := by decide) (hcd : (x == ("__classdict__" : Str)) = false := by decide) : DF X W (.Name x pos) (eOut i) := by
  refine pe_imp (pe_var hN hv hd hcd) ?_
  rintro σ H Q ⟨S, env, r, env', rel, e, q⟩
  unfold eOut at e
  split at e
  · rename_i d hd
    cases e
    obtain ⟨v, e1, e2⟩ := rel.val i d hd
    exact ⟨v, e1, q S H rel.step v e2⟩
  · rename_i m hm
    cases e
    obtain ⟨a, o, e1, e2, e3, e4⟩ := rel.obj i m ⟨_, hm, rfl⟩
    refine ⟨.ref a, e1, ?_⟩
    have z : ∀ p o, less H a p = none → RepO X.K S m o → Q (.ref p) (upd (less H a) p o) := q S (less H a) (rel.out hm e1)
    have z2 := z a o less_same e4
    rw [upd_less e2] at z2
    exact z2
  · cases e
def sRetN : SF := fun e => some (.ret (.d .non), e)
theorem ds_retN {pos : Pos} : DS X W (.Return none pos) sRetN := by
  refine ps_imp ps_retN ?_
  rintro Dn σ H ⟨S, env, z⟩
  have : PostF X.K Dn.rt (fun _ _ _ => False) (.ok (.d .non)) S H := z.end rfl z.choose_spec.choose_spec.1.step
  exact this .non rfl
def sIf (t : EF Bool) (f g : SF) : SF := sBind t fun b => match b with
  | true => f
  | false => g
theorem ds_if {c : Expr} {a b : List Stmt} {t : EF Bool} {f g : SF} {pos : Pos} (hc : DT X W c t) (ha : DB X W a f) (hb : DB X W b g) : DS X W (.If c a b pos) (sIf t f g) := by
  refine ps_imp (ps_if hc ha hb) ?_
  rintro Dn σ H ⟨S, env, z⟩
  refine ⟨S, env, (AtS.bind (R := RB) z).imp fun v H1 ⟨d, S1, e1, r, st, z1⟩ => ?_⟩
  have r' : d = v := r
  subst r'
  cases d with
  | true => exact iteT ⟨S1, e1, z1⟩
  | false => exact iteF ⟨S1, e1, z1⟩
/-- name op= e -/
def sAug (i : Nat) (f : EF D) (g : D → D → EF D) : SF := sBind (eVar i) fun x => sBind f fun y => sBind (g x y) (putV i)
theorem ds_aug (i : Nat) {x : Str} {e : Expr} {op : Operator} {ti : TIp} {f : EF D} {g : D → D → EF D} {pos pos' : Pos} (hN : X.N.Nodup) (he : DE X W e f) (ho : PIp X op ti)
    (h : ∀ S env σ H Q x y vx vy, Rep X.K S x vx → Rep X.K S y vy → At X.K W (RD X.K) (g x y) S env σ H Q → ti vx vy H Q)
    (hi : X.N[i]? = some x := by rfl) (hx : Loc X.env.scope x := by first | exact Or.inl rfl | exact Or.inr rfl) (hf : X.fn x = true ∨ X.env.scope.names.lookup x = some .local := by first | exact .inl rfl | exact .inr rfl | assumption) :
    DS X W (.AugAssign (.Name x pos') op e pos) (sAug i f g) := by
  refine ps_imp (ps_aug hN hi hx he ho hf) ?_
  rintro Dn σ H ⟨S, env, z⟩
  obtain ⟨o, e', rel, ee, q⟩ := id z
  unfold sAug sBind eVar at ee
  have hx : ∃ d, env[i]? = some (some (.v d)) := by
    split at ee
    · rename_i h1
      split at h1
      · exact ⟨_, by assumption⟩
      · cases h1
    · rename_i h1
      split at h1
      · cases h1
      · cases h1
    · cases ee
  obtain ⟨d, hd⟩ := hx
  obtain ⟨v, e1, e2⟩ := rel.val i d hd
  refine ⟨v, e1, ?_⟩
  have z2 : AtS X.K W (sBind f fun y => sBind (g d y) (putV i)) S env σ H Dn := by
    refine ⟨o, e', rel, ?_, q⟩
    rw [← ee]
    simp only [hd]
    rfl
  refine ⟨S, env, (AtS.bind (R := RD X.K) z2).imp fun y H1 ⟨dy, S1, e1, r, st, z1⟩ => ?_⟩
  refine h S1 e1 σ H1 _ d dy v y (Rep.mono st.le _ _ e2) r ((AtS.bind (R := RD X.K) z1).imp fun w H2 ⟨dw, S2, e2, r2, st2, z3⟩ => ?_)
  exact putV_end z3 r2
end

/-! ## a def -/
def backs : List Sl → ME → List Sl
  | [], _ => []
  | .v d :: r, _ :: e => .v d :: backs r e
  | .b m :: r, s :: e => (match s with
    | some (.b m') => .b m'
    | _ => .b m) :: backs r e
  | .o m :: r, _ :: e => .o m :: backs r e
  | s :: r, [] => s :: r
/-- the mirror of a def: n parameters, k further slots -/
def mDef (n k : Nat) (g : SF) : MF := fun as => if as.length = n then match g (as.map some ++ List.replicate k none) with
  | some (.ret r, e) => some (.ok r, backs as e)
  | some (.nx, e) => some (.ok (.d .non), backs as e)
  | some (.ex x, e) => some (.ex x, backs as e)
  | _ => none
  else none
theorem backs_len : ∀ (as : List Sl) (e : ME), (backs as e).length = as.length
  | [], _ => rfl
  | .v d :: r, _ :: e => by simp [backs, backs_len r e]
  | .b m :: r, s :: e => by simp [backs, backs_len r e]
  | .o m :: r, _ :: e => by simp [backs, backs_len r e]
  | .v d :: r, [] => rfl
  | .b d :: r, [] => rfl
  | .o d :: r, [] => rfl
theorem backs_at : ∀ (as : List Sl) (e : ME) (j : Nat) (s : Sl), (backs as e)[j]? = some s → (∃ d, s = .v d ∧ as[j]? = some (.v d)) ∨ (∃ m m', s = .b m' ∧ as[j]? = some (.b m) ∧ (e[j]? = some (some (.b m')) ∨ (∀ z, e[j]? ≠ some (some (.b z))))) ∨ ∃ m, s = .o m ∧ as[j]? = some (.o m)
  | [], _, j, s, h => by simp [backs] at h
  | .v d :: r, x :: e, 0, s, h => by simp [backs] at h; exact .inl ⟨d, h.symm, rfl⟩
  | .o d :: r, x :: e, 0, s, h => by simp [backs] at h; exact .inr (.inr ⟨d, h.symm, rfl⟩)
  | .b m :: r, x :: e, 0, s, h => by
    simp [backs] at h
    split at h
    · rename_i m'
      exact .inr (.inl ⟨m, m', h.symm, rfl, .inl rfl⟩)
    · rename_i hx
      refine .inr (.inl ⟨m, m, h.symm, rfl, .inr fun z hz => ?_⟩)
      simp at hz
      exact hx z hz
  | .v d :: r, x :: e, j + 1, s, h => by simp [backs] at h ⊢; exact backs_at r e j s h
  | .o d :: r, x :: e, j + 1, s, h => by simp [backs] at h ⊢; exact backs_at r e j s h
  | .b d :: r, x :: e, j + 1, s, h => by simp [backs] at h ⊢; exact backs_at r e j s h
  | a :: r, [], j, s, h => by
    have h' : (a :: r)[j]? = some s := by
      cases a <;> exact h
    cases s with
    | v d => exact .inl ⟨d, rfl, h'⟩
    | b m => exact .inr (.inl ⟨m, m, rfl, h', .inr fun z hz => by simp at hz⟩)
    | o m => exact .inr (.inr ⟨m, rfl, h'⟩)
section
variable {K : PySem.W.Frag} {S S' : Hp} {H H' : Hp} {as : List Sl} {vs : List V} {e' : ME} {σ' : St} {k : Nat}
theorem at_app {α : Type} {l : List (Option α)} {k j : Nat} {x : α} : (l ++ List.replicate k none)[j]? = some (some x) ↔ l[j]? = some (some x) := by
  constructor
  · intro h
    by_cases hj : j < l.length
    · rw [List.getElem?_append_left hj] at h; exact h
    · rw [List.getElem?_append_right (by omega)] at h
      rw [List.getElem?_replicate] at h
      split at h <;> cases h
  · intro h
    rw [List.getElem?_append_left (lt_of_at h)]; exact h
/-- the slots at the entry -/
theorem Rel.enter (r : Rel K S (as.map some) (vs.map some) H) : Rel K S (as.map some ++ List.replicate k none) (vs.map some ++ List.replicate k none) H := by
  refine ⟨by simp; have := r.len; simpa using this, r.sub, fun i d e => ?_, fun i m ⟨s, e, em⟩ => ?_, fun i j m m' a ⟨s, e1, m1⟩ ⟨s', e2, m2⟩ e3 e4 => ?_⟩
  · obtain ⟨v, e1, e2⟩ := r.val i d (at_app.mp e)
    exact ⟨v, at_app.mpr e1, e2⟩
  · obtain ⟨a, o, e1, e2, e3, e4⟩ := r.obj i m ⟨s, at_app.mp e, em⟩
    exact ⟨a, o, at_app.mpr e1, e2, e3, e4⟩
  · exact r.dis i j m m' a ⟨s, at_app.mp e1, m1⟩ ⟨s', at_app.mp e2, m2⟩ (at_app.mp e3) (at_app.mp e4)
/-- behind the body, as the caller sees it -/
theorem Step.leave (no : NoO as) (r : Rel K S (as.map some) (vs.map some) H) (st : Step K S (as.map some ++ List.replicate k none) (vs.map some ++ List.replicate k none) H S' e' σ' H') :
    Step K S (as.map some) (vs.map some) H S' ((backs as e').map some) (vs.map some) H' := by
  have noO : ∀ b, ¬ OwnO (as.map some) (vs.map some) b := fun b ⟨j, m, e, _⟩ => by
    obtain ⟨s, es, e⟩ := map_at e
    cases es
    exact no m (List.mem_of_getElem? e)
  have own0 : ∀ b, ¬ Own (as.map some) (vs.map some) b → ¬ Own (as.map some ++ List.replicate k none) (vs.map some ++ List.replicate k none) b := fun b n ⟨i, m, ⟨s, e, em⟩, ev⟩ => n ⟨i, m, ⟨s, at_app.mp e, em⟩, at_app.mp ev⟩
  have ownO0 : ∀ b, ¬ OwnO (as.map some ++ List.replicate k none) (vs.map some ++ List.replicate k none) b := fun b ⟨i, m, e, ev⟩ => noO b ⟨i, m, at_app.mp e, at_app.mp ev⟩
  -- a lent place
  have lent : ∀ (j : Nat) (m : MO), as[j]? = some (.b m) → ∃ m' a o, e'[j]? = some (some (.b m')) ∧ (backs as e')[j]? = some (.b m') ∧ vs[j]? = some (.ref a) ∧ H' a = some o ∧ S' a = none ∧ RepO K S' m' o ∧ σ'[j]? = some (some (.ref a)) := fun j m e => by
    obtain ⟨⟨m', q1⟩, q2⟩ := st.bor j m (at_app.mpr (map_at' e))
    obtain ⟨a, o, x1, x2, x3, x4⟩ := st.rel.obj j m' ⟨_, q1, rfl⟩
    have hj : j < (backs as e').length := by rw [backs_len]; exact lt_of_at e
    have eb : (backs as e')[j]? = some (backs as e')[j] := List.getElem?_eq_getElem hj
    have vj : vs[j]? = some (.ref a) := by
      rw [x1] at q2
      have := at_app.mp q2.symm
      obtain ⟨y, ey, z⟩ := map_at this
      cases ey
      exact z
    rcases backs_at as e' j _ eb with ⟨d, ed, ea⟩ | ⟨m1, m2, ed, ea, h | h⟩ | ⟨m2, ed, ea⟩
    · rw [e] at ea; cases ea
    · rw [q1] at h
      cases h
      exact ⟨m', a, o, q1, by rw [eb, ed], vj, x2, x3, x4, x1⟩
    · exact absurd q1 (h m')
    · rw [e] at ea; cases ea
  have hasB : ∀ (j : Nat) (m : MO), Has ((backs as e').map some) j m → ∃ m0, as[j]? = some (.b m0) := fun j m ⟨s, e, em⟩ => by
    obtain ⟨s', es, e⟩ := map_at e
    cases es
    rcases backs_at as e' j _ e with ⟨d, ed, ea⟩ | ⟨m1, m2, ed, ea, _⟩ | ⟨m2, ed, ea⟩
    · subst ed; cases em
    · exact ⟨m1, ea⟩
    · exact absurd (List.mem_of_getElem? ea) (no m2)
  refine ⟨⟨by simp [backs_len]; have := r.len; simpa using this, st.rel.sub, fun i d e => ?_, fun i m e => ?_, fun i j m m' a e1 e2 e3 e4 => ?_⟩, st.le, fun b h => ?_, fun b o h n => st.frame b o h (own0 b n), fun i m h => ?_, fun i m h => ?_, fun a h => ?_, rfl⟩
  · obtain ⟨s, es, e⟩ := map_at e
    cases es
    rcases backs_at as e' i _ e with ⟨d', ed, ea⟩ | ⟨m1, m2, ed, ea, _⟩ | ⟨m2, ed, ea⟩
    · cases ed
      obtain ⟨v, e1, e2⟩ := r.val i d (map_at' ea)
      exact ⟨v, e1, Rep.mono st.le _ _ e2⟩
    · cases ed
    · cases ed
  · obtain ⟨m0, e0⟩ := hasB i m e
    obtain ⟨m', a, o, q1, q2, q3, q4, q5, q6, q7⟩ := lent i m0 e0
    obtain ⟨s, e1, em⟩ := e
    rw [map_at' q2] at e1
    cases e1
    cases em
    exact ⟨a, o, map_at' q3, q4, q5, q6⟩
  · obtain ⟨m1, x1⟩ := hasB i m e1
    obtain ⟨m2, x2⟩ := hasB j m' e2
    exact r.dis i j m1 m2 a ⟨_, map_at' x1, rfl⟩ ⟨_, map_at' x2, rfl⟩ e3 e4
  · rcases st.fresh b h with z | z | z
    · exact .inl z
    · exact .inr (.inl z)
    · exact absurd z (ownO0 b)
  · obtain ⟨s, es, e⟩ := map_at h
    cases es
    obtain ⟨m', a, o, q1, q2, _⟩ := lent i m e
    exact ⟨⟨m', map_at' q2⟩, rfl⟩
  · obtain ⟨m0, e0⟩ := hasB i m ⟨_, h, rfl⟩
    exact ⟨m0, map_at' e0⟩
  · obtain ⟨i, m, e, ev⟩ := h
    obtain ⟨m0, e0⟩ := hasB i m ⟨_, e, rfl⟩
    obtain ⟨m', a', o, q1, q2, _⟩ := lent i m0 e0
    rw [map_at' q2] at e
    cases e
end
section
variable {P : Program} {w : World} {K : PySem.W.Frag} {mg : Str → Option Value} {base : Heap}
/-- THE RULE for a def -/
theorem okM {x qual : Str} {st : Stmt} {f : Addr} {fd : FuncData} {N ps : List Str} {j k n : Nat} {g : SF} (F : Fun K x qual st f fd) (Sc : FnScope N ps (defScope st)) (hn : ps.length = n) (hk : N.length = n + k)
    (hbody : ∀ (cdv : Value) (A : Around) (outer : List PySem.Env) (s : Shared) (H : Hp) (E : XK), Room j (cxOf (L2.CX P w) P w K mg base N qual (defScope st) f cdv A outer s H E).A →
      Takes (cxOf (L2.CX P w) P w K mg base N qual (defScope st) f cdv A outer s H E) (fun cls d _ H => E cls d H) → DB (cxOf (L2.CX P w) P w K mg base N qual (defScope st) f cdv A outer s H E) (fun cls d _ H => E cls d H) (defBody st) g) :
    FnOk P w K mg base (L2.CX P w) (j + 1) f fd ps (spM K n (mDef n k g)) := by
  refine F.okX Sc (fun vs H Q E h => ?_) (fun cdv A outer s H vs Q E hr h => ?_)
  · obtain ⟨S, as, r, as', h1, h2, rel, _⟩ := h
    have := rel.len
    simp at this
    rw [hn, ← h1, this]
  · obtain ⟨S, as, r, as', h1, h2, rel, hm, q⟩ := h
    have hvl : vs.length = n := by
      have := rel.len
      simp at this
      rw [← h1, this]
    have tk : Takes (cxOf (L2.CX P w) P w K mg base N qual (defScope st) f cdv A outer s H E) (fun cls d _ H => E cls d H) := takes_of rfl rfl rfl rfl
    refine ⟨_, hbody cdv A outer s H E hr tk, ?_⟩
    unfold mDef at hm
    rw [if_pos h1] at hm
    have hst : L2.start N vs = vs.map some ++ List.replicate k none := by
      unfold L2.start
      rw [hk, hvl, Nat.add_sub_cancel_left]
    rw [hst]
    cases eg : g (as.map some ++ List.replicate k none) with
    | none => rw [eg] at hm; cases hm
    | some p =>
      obtain ⟨o, e'⟩ := p
      rw [eg] at hm
      refine ⟨S, _, o, e', rel.enter, eg, fun S' σ' H' stp => ?_⟩
      have lv := stp.leave h2 rel
      cases o with
      | nx =>
        cases hm
        exact q S' H' lv .non rfl
      | ret r' =>
        cases hm
        have := q S' H' lv
        cases r' with
        | d d => exact this
        | o m => exact this
      | ex x =>
        cases hm
        exact q S' H' lv
      | brk => cases hm
      | cnt => cases hm
end
end Mir

namespace Mir
open PySem PySem.Spec PyProof.Rows L2

/-! ## reading what is handed on -/
def viewA : AV → ME → Option D
  | .d d, _ => some d
  | .own i, env => match env[i]? with
    | some (some s) => match s.mo with
      | some m => some m.d
      | none => none
    | _ => none
theorem view_rep {K : PySem.W.Frag} {S : Hp} {env : ME} {σ : St} {H : Hp} {a : AV} {v : V} {d : D} (r : Rel K S env σ H) (ra : RA K σ S a v) (h : viewA a env = some d) : ∃ S2, Same S2 H ∧ Le S S2 ∧ Rep K S2 d v := by
  cases a with
  | d d' =>
    cases h
    exact ⟨S, r.sub, Le.refl S, ra⟩
  | own i =>
    unfold viewA at h
    dsimp only at h
    split at h
    · rename_i s hs
      split at h
      · rename_i m hm
        cases h
        obtain ⟨a, o, e1, e2, e3, e4⟩ := r.obj i m ⟨s, hs, hm⟩
        have ra' : σ[i]? = some (some v) := ra
        rw [e1] at ra'
        cases ra'
        have sm : Same S (upd S a o) := fun b u e => by rw [upd_ne (ne_of_none e e3)]; exact e
        refine ⟨upd S a o, fun b u e => ?_, Le.of sm, (e4.mono (Le.of sm)).rep upd_same⟩
        by_cases hb : b = a
        · subst hb; rw [upd_same] at e; cases e; exact e2
        · rw [upd_ne hb] at e; exact r.sub b u e
      · cases h
    · cases h
/-- the value is d: its top read off H, its parts stable -/
def Rep1 (K : PySem.W.Frag) (S H : Hp) : D → V → Prop
  | .tup ds, v => ∃ a vs, v = .ref a ∧ TupAt K H a vs ∧ ds.length ≤ sizeLine ∧ ds.length = vs.length ∧ Reps K S ds vs ∧ TupAt K S a vs
  | .lst ds, v => ∃ a vs, v = .ref a ∧ H a = some (.lst vs) ∧ ds.length ≤ sizeLine ∧ ds.length = vs.length ∧ Reps K S ds vs
  | .frl ds, v => ∃ a vs, v = .ref a ∧ SqL K H a vs ∧ ds.length ≤ sizeLine ∧ ds.length = vs.length ∧ Reps K S ds vs
  | .dK kds, v => ∃ a kvs, v = .ref a ∧ Rd H a (.dK kvs) ∧ kds.length ≤ sizeLine ∧ RepK K S kds kvs
  | .ins C gs, v => ∃ a dx fs, v = .ref a ∧ H a = some (.ins C dx fs) ∧ RepF K S gs fs
  | .str x, v => v = .str x ∧ x.length ≤ sizeLine
  | .non, v => v = .non
  | .bl b, v => v = .bl b
  | .int i, v => v = .int i
  | .ty n, v => v = .ty n
  | .ref a, v => v = .ref a
theorem same_rd {S H : Hp} (sm : Same S H) {a : Addr} {u : HO} (h : Rd S a u) : Rd H a u := by
  rcases h with h | ⟨o, h⟩
  · exact .inl (sm _ _ h)
  · exact .inr ⟨o, sm _ _ h⟩
theorem Rep.one {K : PySem.W.Frag} {S H : Hp} (sm : Same S H) {d : D} {v : V} (h : Rep K S d v) : Rep1 K S H d v := by
  cases d with
  | tup ds =>
    obtain ⟨a, vs, e, q, l, r⟩ := h
    exact ⟨a, vs, e, (Le.of sm).tupAt q, l, Reps.len r, r, q⟩
  | lst ds =>
    obtain ⟨a, vs, e, q, l, r⟩ := h
    exact ⟨a, vs, e, sm _ _ q, l, Reps.len r, r⟩
  | frl ds =>
    obtain ⟨a, vs, e, q, l, r⟩ := h
    exact ⟨a, vs, e, (Le.of sm).sqL q, l, Reps.len r, r⟩
  | dK ds =>
    obtain ⟨a, vs, e, q, l, r⟩ := h
    exact ⟨a, vs, e, same_rd sm q, l, r⟩
  | ins C gs =>
    obtain ⟨a, dx, fs, e, q, r⟩ := h
    exact ⟨a, dx, fs, e, sm _ _ q, r⟩
  | str x => exact h
  | non => exact h
  | bl b => exact h
  | int i => exact h
  | ty n => exact h
  | ref a => exact h
theorem RepO.one {K : PySem.W.Frag} {S H : Hp} {m : MO} {o : HO} {a : Addr} (h : RepO K S m o) (e : H a = some o) : Rep1 K S H m.d (.ref a) := by
  cases m with
  | lst ds =>
    obtain ⟨vs, rfl, l, r⟩ := h
    exact ⟨a, vs, rfl, e, l, Reps.len r, r⟩
  | dK ds =>
    obtain ⟨vs, rfl, l, r⟩ := h
    exact ⟨a, vs, rfl, .inl e, l, r⟩
  | ins C gs =>
    obtain ⟨dx, fs, rfl, r⟩ := h
    exact ⟨a, dx, fs, rfl, e, r⟩
theorem view_one {K : PySem.W.Frag} {S : Hp} {env : ME} {σ : St} {H : Hp} {a : AV} {v : V} {d : D} (r : Rel K S env σ H) (ra : RA K σ S a v) (h : viewA a env = some d) : Rep1 K S H d v := by
  cases a with
  | d d' =>
    cases h
    exact Rep.one r.sub ra
  | own i =>
    unfold viewA at h
    dsimp only at h
    split at h
    · rename_i s hs
      split at h
      · rename_i m hm
        cases h
        obtain ⟨a, o, e1, e2, e3, e4⟩ := r.obj i m ⟨s, hs, hm⟩
        have ra' : σ[i]? = some (some v) := ra
        rw [e1] at ra'
        cases ra'
        exact e4.one e2
      · cases h
    · cases h
/-- an operation on what is handed on, that changes nothing -/
def eOn {α : Type} (a : AV) (op : D → Option α) : EF α := fun env => match viewA a env with
  | some d => match op d with
    | some r => some (.ok r, env)
    | none => none
  | none => none
theorem At.on {α β : Type} {K : PySem.W.Frag} {W : WX} {R : RR α β} {a : AV} {op : D → Option α} {S : Hp} {env : ME} {σ : St} {H : Hp} {Q : β → Hp → Prop} {v : V} (z : At K W R (eOn a op) S env σ H Q) (ra : RA K σ S a v) :
    ∃ d x, Rep1 K S H d v ∧ op d = some x ∧ Rel K S env σ H ∧ ∀ S' H', Step K S env σ H S' env σ H' → ∀ b, R σ S' x b → Q b H' := by
  obtain ⟨r, env', rel, e, q⟩ := z
  unfold eOn at e
  split at e
  · rename_i d hd
    split at e
    · rename_i x hx
      cases e
      exact ⟨d, x, view_one rel ra hd, hx, rel, fun S' H' st => q S' H' st⟩
    · cases e
  · cases e
/-- two of them -/
def eOn2 {α : Type} (a b : AV) (op : D → D → Option α) : EF α := fun env => match viewA a env, viewA b env with
  | some d, some d' => match op d d' with
    | some r => some (.ok r, env)
    | none => none
  | _, _ => none
theorem At.on2 {α β : Type} {K : PySem.W.Frag} {W : WX} {R : RR α β} {a b : AV} {op : D → D → Option α} {S : Hp} {env : ME} {σ : St} {H : Hp} {Q : β → Hp → Prop} {v u : V} (z : At K W R (eOn2 a b op) S env σ H Q) (ra : RA K σ S a v) (rb : RA K σ S b u) :
    ∃ d d' x, Rep1 K S H d v ∧ Rep1 K S H d' u ∧ op d d' = some x ∧ Rel K S env σ H ∧ ∀ S' H', Step K S env σ H S' env σ H' → ∀ b, R σ S' x b → Q b H' := by
  obtain ⟨r, env', rel, e, q⟩ := z
  unfold eOn2 at e
  split at e
  · rename_i d d' hd hd'
    split at e
    · rename_i x hx
      cases e
      exact ⟨d, d', x, view_one rel ra hd, view_one rel rb hd', hx, rel, fun S' H' st => q S' H' st⟩
    · cases e
  · cases e
/-! ## built-in functions by name -/
section
variable {X : Cx} {W : WX}
theorem de_callB {x : Str} {id : String} {r : List V → Hp → VK → Prop} {p pos : Pos} {e : Expr} {es : List Expr} {fas : EF (List AV)} {g : List AV → EF D} (hc : CallR X (.builtin id) r) (hm : X.mg x = none) (hv : bootBuiltins x = some (.builtin id)) (ha : DA X W (e :: es) fas)
    (h : ∀ S env σ H Q as vs, RAs X.K σ S as vs → At X.K W (RD X.K) (g as) S env σ H Q → r vs H Q)
    (hg : Gl X x := by rfl) (hn : x ≠ "__name__" := by decide) (hd : (x == ("__debug__" : Str)) = false := by decide) (he : starEach (e :: es) X.env = (false, eval e X.env) :: starEach es X.env := by rfl) (hpl : (backTo pos (starEach es X.env)).any (·.1) = false := by rfl) :
    DE X W (.Call (.Name x p) (e :: es) [] pos) (eBind fas g) := by
  refine pe_imp (pe_callB hc hg hm hv ha hn hd he hpl) ?_
  rintro σ H Q ⟨S, env, z⟩
  exact ⟨S, env, (At.bind (R := RAl X.K) z).imp fun vs H1 ⟨as, S1, e1, rv, st, z1⟩ => h S1 e1 σ H1 Q as vs rv z1⟩
theorem de_callTy {x : Str} {T : String} {r : List V → Hp → VK → Prop} {p pos : Pos} {e : Expr} {es : List Expr} {fas : EF (List AV)} {g : List AV → EF D} (hc : CallR X (.type T) r) (hm : X.mg x = none) (hv : bootBuiltins x = some (.type T)) (ha : DA X W (e :: es) fas)
    (h : ∀ S env σ H Q as vs, RAs X.K σ S as vs → At X.K W (RD X.K) (g as) S env σ H Q → r vs H Q)
    (hg : Gl X x := by rfl) (hn : x ≠ "__name__" := by decide) (hd : (x == ("__debug__" : Str)) = false := by decide) (he : starEach (e :: es) X.env = (false, eval e X.env) :: starEach es X.env := by rfl) (hpl : (backTo pos (starEach es X.env)).any (·.1) = false := by rfl) :
    DE X W (.Call (.Name x p) (e :: es) [] pos) (eBind fas g) := by
  refine pe_imp (pe_callTy hc hg hm hv ha hn hd he hpl) ?_
  rintro σ H Q ⟨S, env, z⟩
  exact ⟨S, env, (At.bind (R := RAl X.K) z).imp fun vs H1 ⟨as, S1, e1, rv, st, z1⟩ => h S1 e1 σ H1 Q as vs rv z1⟩
end
/-- one argument, two -/
def g1 {α : Type} (g : AV → EF α) : List AV → EF α
  | [a] => g a
  | _ => fun _ => none
def g2 {α : Type} (g : AV → AV → EF α) : List AV → EF α
  | [a, b] => g a b
  | _ => fun _ => none
section
variable {α β : Type} {K : PySem.W.Frag} {W : WX} {R : RR α β} {S : Hp} {env : ME} {σ : St} {H : Hp} {Q : β → Hp → Prop} {as : List AV} {vs : List V}
theorem no_at {P : Prop} (z : At K W R (fun _ => none) S env σ H Q) : P := by
  obtain ⟨_, _, _, e, _⟩ := z
  cases e
theorem At.g1 {g : AV → EF α} (z : At K W R (g1 g as) S env σ H Q) (r : RAs K σ S as vs) : ∃ a v, vs = [v] ∧ RA K σ S a v ∧ At K W R (g a) S env σ H Q := by
  match as, z, r with
  | [], z, r => exact no_at z
  | [a], z, r =>
    obtain ⟨v, rs, e, h1, h2⟩ := r
    cases h2
    exact ⟨a, v, e, h1, z⟩
  | _ :: _ :: _, z, r => exact no_at z
theorem At.g2 {g : AV → AV → EF α} (z : At K W R (g2 g as) S env σ H Q) (r : RAs K σ S as vs) : ∃ a b v u, vs = [v, u] ∧ RA K σ S a v ∧ RA K σ S b u ∧ At K W R (g a b) S env σ H Q := by
  match as, z, r with
  | [], z, r => exact no_at z
  | [a], z, r => exact no_at z
  | [a, b], z, r =>
    obtain ⟨v, rs, e, h1, u, rs', e', h2, h3⟩ := r
    cases h3
    subst e'
    exact ⟨a, b, v, u, e, h1, h2, z⟩
  | _ :: _ :: _ :: _, z, r => exact no_at z
end
/-! ### scalar kinds -/
theorem rep_int {K : PySem.W.Frag} {S : Hp} {i : Int} {v : V} (h : Rep K S (.int i) v) : v = .int i := h
def dInts : List D → Option (List Int)
  | [] => some []
  | .int i :: r => match dInts r with
    | some q => some (i :: q)
    | none => none
  | _ :: _ => none
theorem dInts_v {K : PySem.W.Frag} {S : Hp} : ∀ {ds : List D} {ns : List Int} {vs : List V}, dInts ds = some ns → Reps K S ds vs → vs = ns.map V.int
  | [], ns, vs, h, r => by cases h; exact r
  | .int i :: ds, ns, vs, h, r => by
    unfold dInts at h
    cases q : dInts ds with
    | none => rw [q] at h; cases h
    | some z =>
      rw [q] at h
      cases h
      obtain ⟨v, rs, e, h1, h2⟩ := r
      rw [e, dInts_v q h2, rep_int h1]
      rfl
  | .non :: _, _, _, h, _ | .bl _ :: _, _, _, h, _ | .str _ :: _, _, _, h, _ | .ty _ :: _, _, _, h, _ | .ref _ :: _, _, _, h, _ | .tup _ :: _, _, _, h, _ | .lst _ :: _, _, _, h, _ | .frl _ :: _, _, _, h, _ | .dK _ :: _, _, _, h, _ | .ins _ _ :: _, _, _, h, _ => by cases h
def dBls : List D → Option (List Bool)
  | [] => some []
  | .bl i :: r => match dBls r with
    | some q => some (i :: q)
    | none => none
  | _ :: _ => none
theorem dBls_v {K : PySem.W.Frag} {S : Hp} : ∀ {ds : List D} {ns : List Bool} {vs : List V}, dBls ds = some ns → Reps K S ds vs → vs = ns.map V.bl
  | [], ns, vs, h, r => by cases h; exact r
  | .bl i :: ds, ns, vs, h, r => by
    unfold dBls at h
    cases q : dBls ds with
    | none => rw [q] at h; cases h
    | some z =>
      rw [q] at h
      cases h
      obtain ⟨v, rs, e, h1, h2⟩ := r
      have h1' : v = .bl i := h1
      rw [e, dBls_v q h2, h1']
      rfl
  | .non :: _, _, _, h, _ | .int _ :: _, _, _, h, _ | .str _ :: _, _, _, h, _ | .ty _ :: _, _, _, h, _ | .ref _ :: _, _, _, h, _ | .tup _ :: _, _, _, h, _ | .lst _ :: _, _, _, h, _ | .frl _ :: _, _, _, h, _ | .dK _ :: _, _, _, h, _ | .ins _ _ :: _, _, _, h, _ => by cases h
def dStrs : List D → Option (List Str)
  | [] => some []
  | .str i :: r => match dStrs r with
    | some q => some (i :: q)
    | none => none
  | _ :: _ => none
theorem dStrs_v {K : PySem.W.Frag} {S : Hp} : ∀ {ds : List D} {ns : List Str} {vs : List V}, dStrs ds = some ns → Reps K S ds vs → vs = ns.map V.str ∧ ns.length = ds.length ∧ ∀ x ∈ ns, x.length ≤ sizeLine
  | [], ns, vs, h, r => by cases h; exact ⟨r, rfl, fun x hx => by cases hx⟩
  | .str i :: ds, ns, vs, h, r => by
    unfold dStrs at h
    cases q : dStrs ds with
    | none => rw [q] at h; cases h
    | some z =>
      rw [q] at h
      cases h
      obtain ⟨v, rs, e, h1, h2⟩ := r
      obtain ⟨h1', hl⟩ := h1
      obtain ⟨e2, l2, b2⟩ := dStrs_v q h2
      rw [e, e2, h1']
      refine ⟨rfl, by simp [l2], fun x hx => ?_⟩
      rcases List.mem_cons.mp hx with rfl | hx
      · exact hl
      · exact b2 x hx
  | .non :: _, _, _, h, _ | .int _ :: _, _, _, h, _ | .bl _ :: _, _, _, h, _ | .ty _ :: _, _, _, h, _ | .ref _ :: _, _, _, h, _ | .tup _ :: _, _, _, h, _ | .lst _ :: _, _, _, h, _ | .frl _ :: _, _, _, h, _ | .dK _ :: _, _, _, h, _ | .ins _ _ :: _, _, _, h, _ => by cases h

section
variable {X : Cx} {W : WX} {x : Str} {p pos : Pos} {e : Expr} {es : List Expr} {fas : EF (List AV)}
/-! ### len, sum, all, any, abs, min, max, int, repr -/
def oLen : D → Option D
  | .str z => some (.int z.length)
  | .lst ds => some (.int ds.length)
  | .frl ds => some (.int ds.length)
  | .tup ds => some (.int ds.length)
  | .dK kds => some (.int kds.length)
  | _ => none
theorem repK_len {K : PySem.W.Frag} {S : Hp} : ∀ {l : List (Key × D)} {vs : List (Key × V)}, RepK K S l vs → l.length = vs.length
  | [], _, h => by cases h; rfl
  | (k, a) :: as, _, h => by
    obtain ⟨v, r, e, p, q⟩ := h
    subst e
    simp [repK_len q]
theorem call_lenR : CallR X (.builtin "len") (fun xs H Q => ∃ a kvs, xs = [V.ref a] ∧ Rd H a (.dK kvs) ∧ Q (.int kvs.length) H) := by
  intro pins s σ H xs us Q I r h
  obtain ⟨a, kvs, rfl, ha, q⟩ := h
  obtain ⟨u, rfl, ru⟩ := vals1 r
  cases ru
  exact d_len I ha fun t s' I' => ⟨.int kvs.length, H, I', ⟨t, rfl⟩, q⟩
theorem de_len (hm : X.mg "len" = none) (ha : DA X W (e :: es) fas) (hg : Gl X "len" := by rfl) (he : starEach (e :: es) X.env = (false, eval e X.env) :: starEach es X.env := by rfl) (hpl : (backTo pos (starEach es X.env)).any (·.1) = false := by rfl) :
    DE X W (.Call (.Name "len" p) (e :: es) [] pos) (eBind fas (g1 fun a => eOn a oLen)) := by
  refine de_callB (CallR.or call_len call_lenR) hm PySem.boot_len ha (fun S env σ H Q as vs rv z => ?_) hg (he := he) (hpl := hpl)
  obtain ⟨a, v, rfl, ra, z⟩ := z.g1 rv
  obtain ⟨d, n, rd, ho, rel, q⟩ := z.on ra
  cases d with
  | str z =>
    cases ho
    obtain ⟨rfl, hl⟩ := rd
    exact .inl ⟨_, z.length, rfl, ⟨hl, rfl⟩, q S H rel.step _ rfl⟩
  | lst ds =>
    cases ho
    obtain ⟨b, vs, rfl, hq, hl, e, _⟩ := rd
    exact .inl ⟨_, ds.length, rfl, .inl ⟨vs, SqL.of hq, e⟩, q S H rel.step _ rfl⟩
  | frl ds =>
    cases ho
    obtain ⟨b, vs, rfl, hq, hl, e, _⟩ := rd
    exact .inl ⟨_, ds.length, rfl, .inl ⟨vs, hq, e⟩, q S H rel.step _ rfl⟩
  | tup ds =>
    cases ho
    obtain ⟨b, vs, rfl, hq, hl, e, _⟩ := rd
    exact .inl ⟨_, ds.length, rfl, .inr ⟨vs, hq.sq, e⟩, q S H rel.step _ rfl⟩
  | dK ds =>
    cases ho
    obtain ⟨b, vs, rfl, hq, hl, r⟩ := rd
    refine .inr ⟨b, vs, rfl, hq, ?_⟩
    have z := q S H rel.step (.int (ds.length : Nat)) rfl
    rw [repK_len r] at z
    exact z
  | _ => cases ho
/-- a built-in on one list (or other) of which the rule asks by its value -/
theorem de_b1 {nm : Str} {id : String} {r : List V → Hp → VK → Prop} {op : D → Option D} (hc : CallR X (.builtin id) r) (hm : X.mg nm = none) (hv : bootBuiltins nm = some (.builtin id)) (ha : DA X W (e :: es) fas)
    (h : ∀ d v S H Q x, Rep1 X.K S H d v → op d = some x → (∀ w, (∀ S, Rep X.K S x w) → Q w H) → r [v] H Q) (hx : ∀ d x, op d = some x → ∀ S S' w, Rep X.K S x w → Rep X.K S' x w)
    (hg : Gl X nm := by rfl) (hn : nm ≠ "__name__" := by decide) (hd : (nm == ("__debug__" : Str)) = false := by decide) (he : starEach (e :: es) X.env = (false, eval e X.env) :: starEach es X.env := by rfl) (hpl : (backTo pos (starEach es X.env)).any (·.1) = false := by rfl) :
    DE X W (.Call (.Name nm p) (e :: es) [] pos) (eBind fas (g1 fun a => eOn a op)) := by
  refine de_callB hc hm hv ha (fun S env σ H Q as vs rv z => ?_) hg hn hd he hpl
  obtain ⟨a, v, rfl, ra, z⟩ := z.g1 rv
  obtain ⟨d, n, rd, ho, rel, q⟩ := z.on ra
  exact h d v S H Q n rd ho fun w rw => q S H rel.step w (rw S)
def oAll : D → Option D
  | .lst ds => match dBls ds with
    | some bs => some (.bl (bs.all id))
    | none => none
  | _ => none
def oAny : D → Option D
  | .lst ds => match dBls ds with
    | some bs => some (.bl (bs.any id))
    | none => none
  | _ => none
def oSum : D → Option D
  | .lst ds => match dInts ds with
    | some bs => some (.int bs.sum)
    | none => none
  | _ => none
def oAbs : D → Option D
  | .int i => some (.int (if i < 0 then -i else i))
  | _ => none
def oRepr : D → Option D
  | .bl true => some (.str "True")
  | .bl false => some (.str "False")
  | .int i => if i.natAbs.log2 < 1920 then some (.str (toString i)) else none
  | .str _ => none
  | _ => none
theorem repB {K : PySem.W.Frag} {S S' : Hp} {b : Bool} {w : V} (h : Rep K S (.bl b) w) : Rep K S' (.bl b) w := h
theorem de_all (hc : X.calm = true) (hm : X.mg "all" = none) (ha : DA X W (e :: es) fas) (hg : Gl X "all" := by rfl) (he : starEach (e :: es) X.env = (false, eval e X.env) :: starEach es X.env := by rfl) (hpl : (backTo pos (starEach es X.env)).any (·.1) = false := by rfl) :
    DE X W (.Call (.Name "all" p) (e :: es) [] pos) (eBind fas (g1 fun a => eOn a oAll)) := by
  refine de_b1 (cr_all hc) hm (by decide +kernel) ha (fun d v S H Q x rd ho q => ?_) (fun d x ho S S' w h => ?_) hg (by decide) (by decide) he hpl
  · cases d with
    | lst ds =>
      unfold oAll at ho
      dsimp only at ho
      split at ho
      · rename_i bs hb
        cases ho
        obtain ⟨a, vs, rfl, hq, hl, e, r⟩ := rd
        have := dBls_v hb r
        subst this
        exact ⟨a, bs, rfl, SqL.of hq, q _ fun _ => rfl⟩
      · cases ho
    | _ => cases ho
  · cases d with
    | lst ds =>
      unfold oAll at ho
      dsimp only at ho
      split at ho
      · cases ho; exact h
      · cases ho
    | _ => cases ho
theorem de_any (hc : X.calm = true) (hm : X.mg "any" = none) (ha : DA X W (e :: es) fas) (hg : Gl X "any" := by rfl) (he : starEach (e :: es) X.env = (false, eval e X.env) :: starEach es X.env := by rfl) (hpl : (backTo pos (starEach es X.env)).any (·.1) = false := by rfl) :
    DE X W (.Call (.Name "any" p) (e :: es) [] pos) (eBind fas (g1 fun a => eOn a oAny)) := by
  refine de_b1 (cr_any hc) hm (by decide +kernel) ha (fun d v S H Q x rd ho q => ?_) (fun d x ho S S' w h => ?_) hg (by decide) (by decide) he hpl
  · cases d with
    | lst ds =>
      unfold oAny at ho
      dsimp only at ho
      split at ho
      · rename_i bs hb
        cases ho
        obtain ⟨a, vs, rfl, hq, hl, e, r⟩ := rd
        have := dBls_v hb r
        subst this
        exact ⟨a, bs, rfl, SqL.of hq, q _ fun _ => rfl⟩
      · cases ho
    | _ => cases ho
  · cases d with
    | lst ds =>
      unfold oAny at ho
      dsimp only at ho
      split at ho
      · cases ho; exact h
      · cases ho
    | _ => cases ho
theorem de_sum (hc : X.calm = true) (hm : X.mg "sum" = none) (ha : DA X W (e :: es) fas) (hg : Gl X "sum" := by rfl) (he : starEach (e :: es) X.env = (false, eval e X.env) :: starEach es X.env := by rfl) (hpl : (backTo pos (starEach es X.env)).any (·.1) = false := by rfl) :
    DE X W (.Call (.Name "sum" p) (e :: es) [] pos) (eBind fas (g1 fun a => eOn a oSum)) := by
  refine de_b1 (cr_sum hc) hm (by decide +kernel) ha (fun d v S H Q x rd ho q => ?_) (fun d x ho S S' w h => ?_) hg (by decide) (by decide) he hpl
  · cases d with
    | lst ds =>
      unfold oSum at ho
      dsimp only at ho
      split at ho
      · rename_i bs hb
        cases ho
        obtain ⟨a, vs, rfl, hq, hl, e, r⟩ := rd
        have := dInts_v hb r
        subst this
        exact ⟨a, bs, rfl, SqL.of hq, q _ fun _ => rfl⟩
      · cases ho
    | _ => cases ho
  · cases d with
    | lst ds =>
      unfold oSum at ho
      dsimp only at ho
      split at ho
      · cases ho; exact h
      · cases ho
    | _ => cases ho
theorem de_abs (hm : X.mg "abs" = none) (ha : DA X W (e :: es) fas) (hg : Gl X "abs" := by rfl) (he : starEach (e :: es) X.env = (false, eval e X.env) :: starEach es X.env := by rfl) (hpl : (backTo pos (starEach es X.env)).any (·.1) = false := by rfl) :
    DE X W (.Call (.Name "abs" p) (e :: es) [] pos) (eBind fas (g1 fun a => eOn a oAbs)) := by
  refine de_b1 call_abs hm (by decide +kernel) ha (fun d v S H Q x rd ho q => ?_) (fun d x ho S S' w h => ?_) hg (by decide) (by decide) he hpl
  · cases d with
    | int i =>
      cases ho
      exact ⟨i, congrArg (fun z => [z]) (show v = V.int i from rd), q _ fun _ => rfl⟩
    | _ => cases ho
  · cases d with
    | int i => cases ho; exact h
    | _ => cases ho
end
end Mir

namespace Mir
open PySem PySem.Spec PyProof.Rows L2
section
variable {X : Cx} {W : WX}
/-! ## operators by values -/
/-- the rule r of an operation does what op says -/
def OpOk (K : PySem.W.Frag) (r : R2) (op : D → D → Option D) : Prop := ∀ S env σ H (Q : VK) d d' v u x, Rel K S env σ H → Rep1 K S H d v → Rep1 K S H d' u → op d d' = some x →
  (∀ S' H', Step K S env σ H S' env σ H' → ∀ b, Rep K S' x b → Q b H') → r v u H Q
theorem OpOk.or {K : PySem.W.Frag} {r r' : R2} {op op' : D → D → Option D} (h : OpOk K r op) (h' : OpOk K r' op') : OpOk K (fun x y H Q => r x y H Q ∨ r' x y H Q) (fun a b => match op a b with
  | some x => some x
  | none => op' a b) := by
  intro S env σ H Q d d' v u x rel r1 r2 e q
  cases ho : op d d' with
  | some y =>
    simp only [ho] at e
    cases e
    exact .inl (h S env σ H Q d d' v u _ rel r1 r2 ho q)
  | none =>
    simp only [ho] at e
    exact .inr (h' S env σ H Q d d' v u _ rel r1 r2 e q)
theorem de_bin {o : Operator} {r : R2} {op : D → D → Option D} {a b : Expr} {fa fb : EF AV} {pos : Pos} (ho : OpR X (binaryOp o) r) (h : OpOk X.K r op) (ha : DV X W a fa) (hb : DV X W b fb) : DE X W (.BinOp a o b pos) (e2 fa fb fun x y => eOn2 x y op) := by
  refine de_op ho ha hb fun S env σ H Q x y vx vy rx ry z => ?_
  obtain ⟨d, d', w, r1, r2, e, rel, q⟩ := z.on2 rx ry
  exact h S env σ H Q d d' vx vy w rel r1 r2 e q
theorem de_cmpO {o : CmpOp} {r : R2} {op : D → D → Option D} {a b : Expr} {fa fb : EF AV} {pos : Pos} (ho : OpR X (compareOp o) r) (h : OpOk X.K r op) (hm : behindInMarks o b = false) (ha : DV X W a fa) (hb : DV X W b fb) : DE X W (.Compare a [o] [b] pos) (e2 fa fb fun x y => eOn2 x y op) := by
  refine de_cmp ho hm ha hb fun S env σ H Q x y vx vy rx ry z => ?_
  obtain ⟨d, d', w, r1, r2, e, rel, q⟩ := z.on2 rx ry
  exact h S env σ H Q d d' vx vy w rel r1 r2 e q
theorem dt_cmpO {o : CmpOp} {r : R2} {op : D → D → Option D} {a b : Expr} {fa fb : EF AV} {pos : Pos} (ho : OpR X (compareOp o) r) (h : OpOk X.K r op) (hm : behindInMarks o b = false) (ha : DV X W a fa) (hb : DV X W b fb) : DT X W (.Compare a [o] [b] pos) (eT (e2 fa fb fun x y => eOn2 x y op)) := by
  refine dt_cmp ho hm ha hb fun S env σ H Q x y vx vy rx ry z => ?_
  obtain ⟨d, d', w, r1, r2, e, rel, q⟩ := z.on2 rx ry
  exact h S env σ H Q d d' vx vy w rel r1 r2 e q
/-! ### ints -/
def oI (f : Int → Int → Option D) : D → D → Option D
  | .int i, .int j => f i j
  | _, _ => none
theorem oI_inv {f : Int → Int → Option D} {d d' x : D} (h : oI f d d' = some x) : ∃ i j, d = .int i ∧ d' = .int j ∧ f i j = some x := by
  cases d with
  | int i =>
    cases d' with
    | int j => exact ⟨i, j, rfl, rfl, h⟩
    | _ => cases h
  | _ => cases h
theorem ok_rI0 {K : PySem.W.Frag} {g : Int → Int → V} {f : Int → Int → D} (h : ∀ i j S, Rep K S (f i j) (g i j)) : OpOk K (rI0 g) (oI fun i j => some (f i j)) := by
  intro S env σ H Q d d' v u x rel r1 r2 e q
  obtain ⟨i, j, rfl, rfl, e⟩ := oI_inv e
  cases e
  exact ⟨i, j, r1, r2, q S H rel.step _ (h i j S)⟩
theorem ok_rI {K : PySem.W.Frag} {C : Int → Int → Prop} {g : Int → Int → V} {f : Int → Int → Option D} (hC : ∀ i j x, f i j = some x → C i j) (h : ∀ i j x S, f i j = some x → Rep K S x (g i j)) : OpOk K (rI C g) (oI f) := by
  intro S env σ H Q d d' v u x rel r1 r2 e q
  obtain ⟨i, j, rfl, rfl, e⟩ := oI_inv e
  exact ⟨i, j, r1, r2, hC i j x e, q S H rel.step _ (h i j x S e)⟩
def oLt := oI fun i j => some (.bl (decide (i < j)))
def oLe := oI fun i j => some (.bl (decide (i ≤ j)))
def oGt := oI fun i j => some (.bl (decide (j < i)))
def oGe := oI fun i j => some (.bl (decide (j ≤ i)))
theorem ok_lt {K : PySem.W.Frag} : OpOk K (rI0 fun i j => .bl (decide (i < j))) oLt := ok_rI0 fun _ _ _ => rfl
theorem ok_le {K : PySem.W.Frag} : OpOk K (rI0 fun i j => .bl (decide (i ≤ j))) oLe := ok_rI0 fun _ _ _ => rfl
theorem ok_gt {K : PySem.W.Frag} : OpOk K (rI0 fun i j => .bl (decide (j < i))) oGt := ok_rI0 fun _ _ _ => rfl
theorem ok_ge {K : PySem.W.Frag} : OpOk K (rI0 fun i j => .bl (decide (j ≤ i))) oGe := ok_rI0 fun _ _ _ => rfl
def oSub := oI fun i j => some (.int (i - j))
theorem ok_sub {K : PySem.W.Frag} : OpOk K (rI0 fun i j => .int (i - j)) oSub := ok_rI0 fun _ _ _ => rfl
def oMul := oI fun i j => if i.natAbs.log2 + j.natAbs.log2 < 1000000 then some (.int (i * j)) else if (-(2 ^ 64) < i ∧ i < 2 ^ 64) ∨ (-(2 ^ 64) < j ∧ j < 2 ^ 64) then some (.int (i * j)) else none
theorem ok_mul {K : PySem.W.Frag} : OpOk K (fun x y H Q => rI CMulW (fun i j => .int (i * j)) x y H Q ∨ rI CMul (fun i j => .int (i * j)) x y H Q) oMul := by
  intro S env σ H Q d d' v u x rel r1 r2 e q
  obtain ⟨i, j, rfl, rfl, e'⟩ := oI_inv e
  clear e
  split at e'
  · rename_i h
    cases e'
    exact .inl ⟨i, j, r1, r2, h, q S H rel.step _ rfl⟩
  · split at e'
    · rename_i h
      cases e'
      exact .inr ⟨i, j, r1, r2, h, q S H rel.step _ rfl⟩
    · cases e'
def oFdiv := oI fun i j => if 0 < j ∧ j.natAbs.log2 < 9000 then some (.int (i / j)) else none
theorem ok_fdiv {K : PySem.W.Frag} : OpOk K (rI CDivW fun i j => .int (i / j)) oFdiv := by
  refine ok_rI (fun i j x h => ?_) fun i j x S h => ?_
  · split at h
    · assumption
    · cases h
  · split at h
    · cases h; rfl
    · cases h
def oMod := oI fun i j => if 0 < j then some (.int (i % j)) else none
theorem ok_mod {K : PySem.W.Frag} : OpOk K (rI (fun _ j => 0 < j) fun i j => .int (i % j)) oMod := by
  refine ok_rI (fun i j x h => ?_) fun i j x S h => ?_
  · split at h
    · assumption
    · cases h
  · split at h
    · cases h; rfl
    · cases h
def oPow := oI fun i j => if 0 ≤ j ∧ j ≤ 1000000 ∧ i.natAbs < 2 ^ 64 then some (.int (i ^ j.toNat)) else none
theorem ok_pow {K : PySem.W.Frag} : OpOk K (rI CPow fun i j => .int (i ^ j.toNat)) oPow := by
  refine ok_rI (fun i j x h => ?_) fun i j x S h => ?_
  · split at h
    · assumption
    · cases h
  · split at h
    · cases h; rfl
    · cases h
/-! ### + of ints, texts, lists, tuples -/
def oAdd : D → D → Option D
  | .int i, .int j => some (.int (i + j))
  | .str x, .str y => if x.length + y.length ≤ sizeLine then some (.str (x ++ y)) else none
  | .lst xs, .lst ys => if xs.length + ys.length ≤ sizeLine then some (.lst (xs ++ ys)) else none
  | _, _ => none
theorem reps_app {K : PySem.W.Frag} {S : Hp} : ∀ {a b : List D} {va vb : List V}, Reps K S a va → Reps K S b vb → Reps K S (a ++ b) (va ++ vb)
  | [], b, va, vb, h, h' => by cases h; exact h'
  | d :: a, b, _, vb, h, h' => by
    obtain ⟨v, r, e, p, q⟩ := h
    subst e
    exact ⟨v, r ++ vb, rfl, p, reps_app q h'⟩
theorem str_add_len (x y : Str) : (x ++ y).length = x.length + y.length := by
  show (x.cps ++ y.cps).size = x.cps.size + y.cps.size
  simp
abbrev rAddStr : R2 := fun x y H Q => ∃ i j : Str, x = .str i ∧ y = .str j ∧ i.length + j.length ≤ sizeLine ∧ Q (.str (i ++ j)) H
abbrev rAdd3 : R2 := fun x y H Q => rI0 (fun i j => .int (i + j)) x y H Q ∨ rAddStr x y H Q ∨ rCat x y H Q
theorem op_add3 : OpR X (binaryOp .Add) rAdd3 := OpR.or op_add (OpR.or op_add_str op_cat)
theorem ok_add {K : PySem.W.Frag} : OpOk K rAdd3 oAdd := by
  intro S env σ H Q d d' v u x rel r1 r2 e q
  cases d with
  | int i =>
    cases d' with
    | int j => cases e; exact .inl ⟨i, j, r1, r2, q S H rel.step _ rfl⟩
    | _ => cases e
  | str i =>
    cases d' with
    | str j =>
      unfold oAdd at e
      dsimp only at e
      split at e
      · rename_i h
        cases e
        exact .inr (.inl ⟨i, j, r1.1, r2.1, h, q S H rel.step _ ⟨rfl, by rw [str_add_len]; exact h⟩⟩)
      · cases e
    | _ => cases e
  | lst xs =>
    cases d' with
    | lst ys =>
      unfold oAdd at e
      dsimp only at e
      split at e
      · rename_i h
        cases e
        obtain ⟨a, vs, rfl, hq, hl, el, rr⟩ := r1
        obtain ⟨b, us, rfl, hq', hl', el', rr'⟩ := r2
        refine .inr (.inr ⟨a, b, vs, us, rfl, rfl, hq, hq', by rw [← el, ← el']; exact h, fun p hp => ?_⟩)
        have al := rel.alloc (o := .lst (vs ++ us)) hp
        exact q _ _ al _ ⟨p, vs ++ us, rfl, upd_same, by rw [List.length_append]; exact h, reps_app (Reps.mono al.le _ _ rr) (Reps.mono al.le _ _ rr')⟩
      · cases e
    | _ => cases e
  | _ => cases e
/-! ### ==, != of data -/
mutual
def toPy : D → Option PyData
  | .non => some .none
  | .bl b => some (.bool b)
  | .int i => some (.int i)
  | .str x => some (.str x)
  | .tup ds => match toPys ds with
    | some l => some (.tuple l)
    | none => none
  | .lst ds => match toPys ds with
    | some l => some (.list l)
    | none => none
  | _ => none
def toPys : List D → Option (List PyData)
  | [] => some []
  | d :: ds => match toPy d, toPys ds with
    | some p, some l => some (p :: l)
    | _, _ => none
end
mutual
theorem dp_of {K : PySem.W.Frag} {S H : Hp} (sm : Same S H) : ∀ (d : D) (v : V) (p : PyData), Rep K S d v → toPy d = some p → Dp K H v p
  | .non, v, p, r, e => by cases e; cases r; exact .non
  | .bl b, v, p, r, e => by cases e; cases r; exact .bl b
  | .int i, v, p, r, e => by cases e; cases r; exact .int i
  | .str x, v, p, r, e => by cases e; cases r.1; exact .str x
  | .tup ds, v, p, r, e => by
    unfold toPy at e
    split at e
    · rename_i l hl
      cases e
      obtain ⟨a, vs, rfl, hq, _, rr⟩ := r
      exact .tup ((Le.of sm).tupAt hq).sq (dps_of sm ds vs l rr hl)
    · cases e
  | .lst ds, v, p, r, e => by
    unfold toPy at e
    split at e
    · rename_i l hl
      cases e
      obtain ⟨a, vs, rfl, hq, _, rr⟩ := r
      exact .lst (SqL.of (sm _ _ hq)) (dps_of sm ds vs l rr hl)
    · cases e
  | .frl ds, v, p, r, e => by unfold toPy at e; cases e
  | .dK ds, v, p, r, e => by unfold toPy at e; cases e
  | .ins C ds, v, p, r, e => by unfold toPy at e; cases e
  | .ty n, v, p, r, e => by unfold toPy at e; cases e
  | .ref n, v, p, r, e => by unfold toPy at e; cases e
theorem dps_of {K : PySem.W.Frag} {S H : Hp} (sm : Same S H) : ∀ (ds : List D) (vs : List V) (l : List PyData), Reps K S ds vs → toPys ds = some l → DpAll K H vs l
  | [], vs, l, r, e => by cases e; cases r; exact .nil
  | d :: ds, vs, l, r, e => by
    unfold toPys at e
    split at e
    · rename_i p l' hp hl
      cases e
      obtain ⟨v, rs, rfl, r1, r2⟩ := r
      exact .cons (dp_of sm d v p r1 hp) (dps_of sm ds rs l' r2 hl)
    · cases e
end
theorem dp_one {K : PySem.W.Frag} {S H : Hp} (sm : Same S H) {d : D} {v : V} {p : PyData} (r : Rep1 K S H d v) (e : toPy d = some p) : Dp K H v p := by
  cases d with
  | tup ds =>
    unfold toPy at e
    split at e
    · rename_i l hl
      cases e
      obtain ⟨a, vs, rfl, hq, _, _, rr, _⟩ := r
      exact .tup hq.sq (dps_of sm ds vs l rr hl)
    · cases e
  | lst ds =>
    unfold toPy at e
    split at e
    · rename_i l hl
      cases e
      obtain ⟨a, vs, rfl, hq, _, _, rr⟩ := r
      exact .lst (SqL.of hq) (dps_of sm ds vs l rr hl)
    · cases e
  | non => exact dp_of (K := K) (S := S) sm .non _ _ r e
  | bl b => exact dp_of (K := K) (S := S) sm (.bl b) _ _ r e
  | int i => exact dp_of (K := K) (S := S) sm (.int i) _ _ r e
  | str x => exact dp_of (K := K) (S := S) sm (.str x) _ _ r e
  | frl ds => unfold toPy at e; cases e
  | dK ds => unfold toPy at e; cases e
  | ins C ds => unfold toPy at e; cases e
  | ty n => unfold toPy at e; cases e
  | ref n => unfold toPy at e; cases e
def eqD (a b : D) : Option Bool := match toPy a, toPy b with
  | some p, some q => if SeqAt.shaped p = true ∧ SeqAt.shaped q = true then some (PyData.eqv p q) else none
  | _, _ => none
def oEq (a b : D) : Option D := match eqD a b with
  | some c => some (.bl c)
  | none => none
def oNe (a b : D) : Option D := match eqD a b with
  | some c => some (.bl (!c))
  | none => none
theorem eqD_inv {a b : D} {c : Bool} (h : eqD a b = some c) : ∃ p q, toPy a = some p ∧ toPy b = some q ∧ SeqAt.shaped p = true ∧ SeqAt.shaped q = true ∧ c = PyData.eqv p q := by
  unfold eqD at h
  split at h
  · rename_i p q hp hq
    split at h
    · rename_i hs
      cases h
      exact ⟨p, q, hp, hq, hs.1, hs.2, rfl⟩
    · cases h
  · cases h
theorem ok_eq {K : PySem.W.Frag} : OpOk K (rEqD K) oEq := by
  intro S env σ H Q d d' v u x rel r1 r2 e q
  unfold oEq at e
  split at e
  · rename_i c hc
    cases e
    obtain ⟨p, p', h1, h2, h3, h4, rfl⟩ := eqD_inv hc
    exact ⟨p, p', dp_one rel.sub r1 h1, dp_one rel.sub r2 h2, h3, h4, q S H rel.step _ rfl⟩
  · cases e
theorem ok_ne {K : PySem.W.Frag} : OpOk K (rNeD K) oNe := by
  intro S env σ H Q d d' v u x rel r1 r2 e q
  unfold oNe at e
  split at e
  · rename_i c hc
    cases e
    obtain ⟨p, p', h1, h2, h3, h4, rfl⟩ := eqD_inv hc
    exact ⟨p, p', dp_one rel.sub r1 h1, dp_one rel.sub r2 h2, h3, h4, q S H rel.step _ rfl⟩
  · cases e
/-! ### is None, is True -/
def isNone : D → Bool
  | .non => true
  | _ => false
/-- x is y, y None, or both truths -/
def oIs : D → D → Option D
  | d, .non => some (.bl (isNone d))
  | .bl a, .bl b => some (.bl (decide (a = b)))
  | _, _ => none
def oIsNot : D → D → Option D
  | d, .non => some (.bl (!isNone d))
  | .bl a, .bl b => some (.bl (!decide (a = b)))
  | _, _ => none
theorem none_iff {K : PySem.W.Frag} {S H : Hp} {d : D} {v : V} (r : Rep1 K S H d v) : decide (v = .non) = isNone d := by
  cases d with
  | non => cases (show v = V.non from r); rfl
  | bl b => cases (show v = V.bl b from r); rfl
  | int b => cases (show v = V.int b from r); rfl
  | str b => cases r.1; rfl
  | ty n => cases (show v = V.ty n from r); rfl
  | ref n => cases (show v = V.ref n from r); rfl
  | tup ds => obtain ⟨a, _, rfl, _⟩ := r; rfl
  | lst ds => obtain ⟨a, _, rfl, _⟩ := r; rfl
  | frl ds => obtain ⟨a, _, rfl, _⟩ := r; rfl
  | dK ds => obtain ⟨a, _, rfl, _⟩ := r; rfl
  | ins C ds => obtain ⟨a, _, _, rfl, _⟩ := r; rfl
theorem op_is2 : OpR X (compareOp .Is) (fun x y H Q => (y = .non ∧ Q (.bl (decide (x = .non))) H) ∨ rIsB x y H Q) := OpR.or op_isN op_isBl
theorem op_isnot2 : OpR X (compareOp .IsNot) (fun x y H Q => (y = .non ∧ Q (.bl (!decide (x = .non))) H) ∨ rNotB x y H Q) := OpR.or op_notN op_notBl
theorem ok_is {K : PySem.W.Frag} : OpOk K (fun x y H Q => (y = .non ∧ Q (.bl (decide (x = .non))) H) ∨ rIsB x y H Q) oIs := by
  intro S env σ H Q d d' v u x rel r1 r2 e q
  cases d' with
  | non =>
    have e' : some (D.bl (isNone d)) = some x := by
      cases d <;> exact e
    cases e'
    exact .inl ⟨r2, by rw [none_iff r1]; exact q S H rel.step _ rfl⟩
  | bl b =>
    cases d with
    | bl a => cases e; exact .inr ⟨a, b, r1, r2, q S H rel.step _ rfl⟩
    | _ => cases e
  | _ => cases d <;> cases e
theorem ok_isnot {K : PySem.W.Frag} : OpOk K (fun x y H Q => (y = .non ∧ Q (.bl (!decide (x = .non))) H) ∨ rNotB x y H Q) oIsNot := by
  intro S env σ H Q d d' v u x rel r1 r2 e q
  cases d' with
  | non =>
    have e' : some (D.bl (!isNone d)) = some x := by
      cases d <;> exact e
    cases e'
    exact .inl ⟨r2, by rw [none_iff r1]; exact q S H rel.step _ rfl⟩
  | bl b =>
    cases d with
    | bl a => cases e; exact .inr ⟨a, b, r1, r2, q S H rel.step _ rfl⟩
    | _ => cases e
  | _ => cases d <;> cases e
end
end Mir

namespace Mir
open PySem PySem.Spec PyProof.Rows L2
/-! ## isinstance against built-in classes -/
def tyN : D → Option String
  | .non => some "NoneType"
  | .bl _ => some "bool"
  | .int _ => some "int"
  | .str _ => some "str"
  | .tup _ => some "tuple"
  | .lst _ => some "list"
  | .frl _ => some "list"
  | .dK _ => some "dict"
  | _ => none
def subT (t n : String) : Bool := t == n || (t == "bool" && n == "int")
def okT (n : String) : Bool := n == "str" || n == "int" || n == "bool" || n == "list" || n == "tuple" || n == "dict"
theorem kitB_sub {t n : String} (ht : t = "NoneType" ∨ t = "bool" ∨ t = "int" ∨ t = "str" ∨ t = "tuple" ∨ t = "list" ∨ t = "dict") (hn : okT n = true) : kitB t n = some (subT t n) := by
  have hn' : n = "str" ∨ n = "int" ∨ n = "bool" ∨ n = "list" ∨ n = "tuple" ∨ n = "dict" := by
    unfold okT at hn
    simpa [or_assoc] using hn
  rcases hn' with rfl | rfl | rfl | rfl | rfl | rfl <;> rcases ht with rfl | rfl | rfl | rfl | rfl | rfl | rfl <;> decide +kernel
theorem tyX_of {K : PySem.W.Frag} {S H : Hp} {d : D} {v : V} {t : String} (r : Rep1 K S H d v) (h : tyN d = some t) : TyX K H v (.type t) ∧ (t = "NoneType" ∨ t = "bool" ∨ t = "int" ∨ t = "str" ∨ t = "tuple" ∨ t = "list" ∨ t = "dict") := by
  cases d with
  | non => cases h; cases (show v = V.non from r); exact ⟨.base .non, by simp⟩
  | bl b => cases h; cases (show v = V.bl b from r); exact ⟨.base (.bl b), by simp⟩
  | int b => cases h; cases (show v = V.int b from r); exact ⟨.base (.int b), by simp⟩
  | str b => cases h; cases r.1; exact ⟨.base (.str b), by simp⟩
  | tup ds =>
    cases h
    obtain ⟨a, vs, rfl, hq | ⟨o, its, n, hk, hc, _⟩, _⟩ := r
    · exact ⟨.base (.tup hq), by simp⟩
    · exact ⟨.kTuple hk hc, by simp⟩
  | lst ds =>
    cases h
    obtain ⟨a, vs, rfl, hq, _⟩ := r
    exact ⟨.base (.lst hq), by simp⟩
  | frl ds =>
    cases h
    obtain ⟨a, vs, rfl, (hq | ⟨o, hq⟩) | ⟨o, its, n, hk, hc, _⟩, _⟩ := r
    · exact ⟨.base (.lst hq), by simp⟩
    · exact ⟨.base (.frz hq), by simp⟩
    · exact ⟨.kList hk hc, by simp⟩
  | dK ds =>
    cases h
    obtain ⟨a, vs, rfl, hq | ⟨o, hq⟩, _⟩ := r
    · exact ⟨.base (.dK hq), by simp⟩
    · exact ⟨.fDict hq, by simp⟩
  | ins C ds => cases h
  | ty n => cases h
  | ref n => cases h
/-- the names of built-in classes in a tuple -/
def tysOf : List D → Option (List String)
  | [] => some []
  | .ty n :: r => match tysOf r with
    | some q => if okT n then some (n :: q) else none
    | none => none
  | _ :: _ => none
theorem tysOf_inv {K : PySem.W.Frag} {S : Hp} : ∀ {ds : List D} {ns : List String} {vs : List V}, tysOf ds = some ns → Reps K S ds vs → vs = ns.map V.ty ∧ ∀ n ∈ ns, okT n = true
  | [], ns, vs, h, r => by cases h; exact ⟨r, fun n hn => by cases hn⟩
  | .ty i :: ds, ns, vs, h, r => by
    unfold tysOf at h
    cases q : tysOf ds with
    | none => rw [q] at h; cases h
    | some z =>
      rw [q] at h
      dsimp only at h
      split at h
      · rename_i hi
        cases h
        obtain ⟨v, rs, e, h1, h2⟩ := r
        have h1' : v = .ty i := h1
        obtain ⟨e2, b2⟩ := tysOf_inv q h2
        rw [e, e2, h1']
        refine ⟨rfl, fun n hn => ?_⟩
        rcases List.mem_cons.mp hn with rfl | hn
        · exact hi
        · exact b2 n hn
      · cases h
  | .non :: _, _, _, h, _ | .int _ :: _, _, _, h, _ | .bl _ :: _, _, _, h, _ | .str _ :: _, _, _, h, _ | .ref _ :: _, _, _, h, _ | .tup _ :: _, _, _, h, _ | .lst _ :: _, _, _, h, _ | .frl _ :: _, _, _, h, _ | .dK _ :: _, _, _, h, _ | .ins _ _ :: _, _, _, h, _ => by cases h
def oIsi (d c : D) : Option D := match tyN d with
  | some t => match c with
    | .ty n => if okT n then some (.bl (subT t n)) else none
    | .tup cs => match tysOf cs with
      | some ns => some (.bl (ns.any (subT t)))
      | none => none
    | _ => none
  | none => none
theorem clsV_map : ∀ (ns : List String), Paired ClsV (ns.map V.ty) (ns.map Value.type)
  | [] => .nil
  | n :: r => .cons (.ty n) (clsV_map r)
theorem kitAny_ty {K : PySem.W.Frag} {t : String} (ht : t = "NoneType" ∨ t = "bool" ∨ t = "int" ∨ t = "str" ∨ t = "tuple" ∨ t = "list" ∨ t = "dict") : ∀ (ns : List String), (∀ n ∈ ns, okT n = true) → PySem.W.kitAny K (.type t) (ns.map Value.type) = some (ns.any (subT t))
  | [], _ => rfl
  | n :: r, h => by
    have ih := kitAny_ty (K := K) ht r fun m hm => h m (List.mem_cons_of_mem _ hm)
    refine kitAny_cons (b := subT t n) (kit_ty (kitB_sub ht (h n List.mem_cons_self))) (fun e => ?_) fun e => ?_
    · rw [List.any_cons, e, Bool.false_or]; exact ih
    · rw [List.any_cons, e, Bool.true_or]
theorem vals_ty : ∀ {ns : List String} {us : List Value}, Vals (ns.map V.ty) us → us = ns.map Value.type
  | [], us, r => by cases r; rfl
  | n :: ns, us, r => by
    cases r with
    | cons h t =>
      rw [vals_ty t, show _ = Value.type n from h]
      rfl
section
variable {X : Cx} {W : WX} {p pos : Pos} {e : Expr} {es : List Expr} {fas : EF (List AV)}
theorem de_isi (hm : X.mg "isinstance" = none) (ha : DA X W (e :: es) fas) (hg : Gl X "isinstance" := by rfl) (he : starEach (e :: es) X.env = (false, eval e X.env) :: starEach es X.env := by rfl) (hpl : (backTo pos (starEach es X.env)).any (·.1) = false := by rfl) :
    DE X W (.Call (.Name "isinstance" p) (e :: es) [] pos) (eBind fas (g2 fun a b => eOn2 a b oIsi)) := by
  refine de_callB (CallR.or call_isi (CallR.or call_isiT call_isiK)) hm PyProof.Rows.boot_isinstance ha (fun S env σ H Q as vs rv z => ?_) hg (he := he) (hpl := hpl)
  obtain ⟨a, b, v, u, rfl, ra, rb, z⟩ := z.g2 rv
  obtain ⟨d, c, x, r1, r2, ho, rel, q⟩ := z.on2 ra rb
  unfold oIsi at ho
  cases ht : tyN d with
  | none => rw [ht] at ho; cases ho
  | some t =>
    rw [ht] at ho
    dsimp only at ho
    obtain ⟨ty, hts⟩ := tyX_of r1 ht
    cases c with
    | ty n =>
      dsimp only at ho
      split at ho
      · rename_i hn
        cases ho
        cases (show u = V.ty n from r2)
        exact .inl ⟨v, .ty n, .type t, .type n, subT t n, rfl, .ty n, ty, kit_ty (kitB_sub hts hn), q S H rel.step _ rfl⟩
      · cases ho
    | tup cs =>
      dsimp only at ho
      split at ho
      · rename_i ns hns
        cases ho
        obtain ⟨tp, ws, rfl, hT, _, _, rr, _⟩ := r2
        obtain ⟨ew, bn⟩ := tysOf_inv hns rr
        subst ew
        rcases hT with hT | ⟨o, its, n, hk, hc, hd, hz, hv⟩
        · exact .inr (.inl ⟨v, tp, _, .type t, _, _, rfl, hT, clsV_map ns, ty, kitAny_ty hts ns bn, q S H rel.step _ rfl⟩)
        · obtain ⟨oc, od, dt, sl⟩ := o
          dsimp only at hc hd
          subst hc hd
          have e1 := vals_ty hv
          have e2 : its = (ns.map Value.type).toArray := by rw [← e1]
          subst e2
          exact .inr (.inr ⟨v, tp, od, ns.map Value.type, n, sl, .type t, _, rfl, hk, ty, kitAny_ty hts ns bn, q S H rel.step _ rfl⟩)
      · cases ho
    | _ => cases ho
theorem de_ty {x : Str} {n : String} (hm : X.mg x = none) (hv : bootBuiltins x = some (.type n)) (hg : Gl X x := by rfl) (hn : x ≠ "__name__" := by decide) (hd : (x == ("__debug__" : Str)) = false := by decide) : DE X W (.Name x pos) (eRet (.ty n)) :=
  de_const (pe_bltn (v := .ty n) hg hm hv rfl hn hd) fun _ => rfl
/-! ## in: a sign in a text; an item in a list -/
def oInS (d c : D) : Option D := match d, c with
  | .str x, .str z => match x.cps.toList with
    | [k] => some (.bl (decide (k ∈ z.cps.toList)))
    | _ => none
  | _, _ => none
theorem str_one {x : Str} {k : Nat} (h : x.cps.toList = [k]) : x = ⟨#[k]⟩ := by
  obtain ⟨c⟩ := x
  have : c = #[k] := by
    apply Array.toList_inj.mp
    exact h
  rw [this]
theorem ok_inS {K : PySem.W.Frag} : OpOk K (fun x y H Q => ∃ (c : Nat) (z : Str), x = .str ⟨#[c]⟩ ∧ y = .str z ∧ Q (.bl (decide (c ∈ z.cps.toList))) H) oInS := by
  intro S env σ H Q d d' v u x rel r1 r2 e q
  cases d with
  | str y =>
    cases d' with
    | str z =>
      unfold oInS at e
      dsimp only at e
      split at e
      · rename_i k hk
        cases e
        refine ⟨k, z, ?_, r2.1, q S H rel.step _ rfl⟩
        rw [← str_one hk]
        exact r1.1
      · cases e
    | _ => cases e
  | _ => cases d' <;> cases e
/-- x in a list of data -/
def oInL (d c : D) : Option D := match c with
  | .lst ds => match toPy d, toPys ds with
    | some p, some l => if SeqAt.shaped p = true ∧ SeqAt.shaped (.list l) = true then some (.bl (l.any fun z => PyData.eqv z p)) else none
    | _, _ => none
  | _ => none
theorem ok_inL {K : PySem.W.Frag} : OpOk K (rInD K) oInL := by
  intro S env σ H Q d d' v u x rel r1 r2 e q
  cases d' with
  | lst ds =>
    unfold oInL at e
    dsimp only at e
    split at e
    · rename_i p l hp hl
      split at e
      · rename_i hs
        cases e
        refine ⟨p, l, dp_one rel.sub r1 hp, dp_one rel.sub r2 ?_, hs.1, hs.2, q S H rel.step _ rfl⟩
        unfold toPy
        rw [hl]
      · cases e
    · cases e
  | _ => cases e
/-! ## items -/
def oIx (d c : D) : Option D := match d, c with
  | .lst ds, .int i => atI ds i
  | .frl ds, .int i => atI ds i
  | .tup ds, .int i => atI ds i
  | .str z, .int i => match atI z.cps.toList i with
    | some c => some (.str ⟨#[c]⟩)
    | none => none
  | _, _ => none
theorem reps_at {K : PySem.W.Frag} {S : Hp} : ∀ {ds : List D} {vs : List V} {j : Nat} {d : D}, Reps K S ds vs → ds[j]? = some d → ∃ v, vs[j]? = some v ∧ Rep K S d v
  | [], _, j, d, h, e => by simp at e
  | x :: as, _, 0, a, h, e => by
    obtain ⟨v, r, e1, p, q⟩ := h
    subst e1
    simp at e
    subst e
    exact ⟨v, rfl, p⟩
  | x :: as, _, j + 1, a, h, e => by
    obtain ⟨v, r, e1, p, q⟩ := h
    subst e1
    simp only [List.getElem?_cons_succ] at e ⊢
    exact reps_at q e
theorem atI_reps {K : PySem.W.Frag} {S : Hp} {ds : List D} {vs : List V} {i : Int} {d : D} (r : Reps K S ds vs) (h : atI ds i = some d) : ∃ v, atI vs i = some v ∧ Rep K S d v := by
  unfold atI at h ⊢
  rw [← Reps.len r]
  cases e : ixN ds.length i with
  | none => rw [e] at h; cases h
  | some j =>
    rw [e] at h
    exact reps_at r h
abbrev rIx3 (K : PySem.W.Frag) : R2 := fun x y H Q => rIxL K x y H Q ∨ rIxT K x y H Q ∨ rIxS x y H Q
theorem ok_ix {K : PySem.W.Frag} : OpOk K (rIx3 K) oIx := by
  intro S env σ H Q d d' v u x rel r1 r2 e q
  cases d' with
  | int i =>
    cases (show u = V.int i from r2)
    cases d with
    | lst ds =>
      obtain ⟨a, vs, rfl, hq, _, _, rr⟩ := r1
      obtain ⟨w, hw, rw'⟩ := atI_reps rr (show atI ds i = some x from e)
      exact .inl ⟨a, vs, i, w, rfl, rfl, SqL.of hq, hw, q S H rel.step _ rw'⟩
    | frl ds =>
      obtain ⟨a, vs, rfl, hq, _, _, rr⟩ := r1
      obtain ⟨w, hw, rw'⟩ := atI_reps rr (show atI ds i = some x from e)
      exact .inl ⟨a, vs, i, w, rfl, rfl, hq, hw, q S H rel.step _ rw'⟩
    | tup ds =>
      obtain ⟨a, vs, rfl, hq, _, _, rr, _⟩ := r1
      obtain ⟨w, hw, rw'⟩ := atI_reps rr (show atI ds i = some x from e)
      exact .inr (.inl ⟨a, vs, i, w, rfl, rfl, hq.sq, hw, q S H rel.step _ rw'⟩)
    | str z =>
      obtain ⟨rfl, hl⟩ := r1
      unfold oIx at e
      dsimp only at e
      split at e
      · rename_i c hc
        cases e
        exact .inr (.inr ⟨z, i, c, rfl, rfl, hl, hc, q S H rel.step _ ⟨rfl, by show 1 ≤ sizeLine; decide⟩⟩)
      · cases e
    | _ => cases e
  | _ => cases d <;> cases e
theorem ix3 : IxR X (rIx3 X.K) := IxR.or ix_list (IxR.or ix_tup ix_str)
theorem de_ix {a b : Expr} {fa fb : EF AV} (ha : DV X W a fa) (hb : DV X W b fb) (hs : PlainIx b := by exact fun _ _ => rfl) : DE X W (.Subscript a b pos) (e2 fa fb fun x y => eOn2 x y oIx) := by
  refine pe_imp (pe_ix ix3 ha hb hs) ?_
  rintro σ H Q ⟨S, env, z⟩
  refine ⟨S, env, (At.bind (R := RAv X.K) z).imp fun vx H1 ⟨x, S1, e1, rx, st, z1⟩ => ?_⟩
  refine ⟨S1, e1, (At.bind (R := RAv X.K) z1).imp fun vy H2 ⟨y, S2, e2, ry, st2, z2⟩ => ?_⟩
  obtain ⟨d, d', w, r1, r2, e, rel, q⟩ := z2.on2 (rx.mono st2.le) ry
  exact ok_ix S2 e2 σ H2 Q d d' vx vy w rel r1 r2 e q
end
end Mir

namespace Mir
open PySem PySem.Spec PyProof.Rows L2
section
variable {X : Cx} {W : WX} {p pos : Pos} {e : Expr} {es : List Expr} {fas : EF (List AV)}
/-! ## min, max of two; int(..) -/
def oMin (d c : D) : Option D := match d, c with
  | .int i, .int j => some (.int (if j < i then j else i))
  | _, _ => none
def oMax (d c : D) : Option D := match d, c with
  | .int i, .int j => some (.int (if j > i then j else i))
  | _, _ => none
theorem de_min2 (hc : X.calm = true) (hm : X.mg "min" = none) (ha : DA X W (e :: es) fas) (hg : Gl X "min" := by rfl) (he : starEach (e :: es) X.env = (false, eval e X.env) :: starEach es X.env := by rfl) (hpl : (backTo pos (starEach es X.env)).any (·.1) = false := by rfl) :
    DE X W (.Call (.Name "min" p) (e :: es) [] pos) (eBind fas (g2 fun a b => eOn2 a b oMin)) := by
  refine de_callB (call_min2 hc) hm (by decide +kernel) ha (fun S env σ H Q as vs rv z => ?_) hg (he := he) (hpl := hpl)
  obtain ⟨a, b, v, u, rfl, ra, rb, z⟩ := z.g2 rv
  obtain ⟨d, c, x, r1, r2, ho, rel, q⟩ := z.on2 ra rb
  cases d with
  | int i =>
    cases c with
    | int j =>
      cases ho
      cases (show v = V.int i from r1)
      cases (show u = V.int j from r2)
      exact ⟨i, j, rfl, q S H rel.step _ rfl⟩
    | _ => cases ho
  | _ => cases c <;> cases ho
theorem de_max2 (hc : X.calm = true) (hm : X.mg "max" = none) (ha : DA X W (e :: es) fas) (hg : Gl X "max" := by rfl) (he : starEach (e :: es) X.env = (false, eval e X.env) :: starEach es X.env := by rfl) (hpl : (backTo pos (starEach es X.env)).any (·.1) = false := by rfl) :
    DE X W (.Call (.Name "max" p) (e :: es) [] pos) (eBind fas (g2 fun a b => eOn2 a b oMax)) := by
  refine de_callB (call_max2 hc) hm (by decide +kernel) ha (fun S env σ H Q as vs rv z => ?_) hg (he := he) (hpl := hpl)
  obtain ⟨a, b, v, u, rfl, ra, rb, z⟩ := z.g2 rv
  obtain ⟨d, c, x, r1, r2, ho, rel, q⟩ := z.on2 ra rb
  cases d with
  | int i =>
    cases c with
    | int j =>
      cases ho
      cases (show v = V.int i from r1)
      cases (show u = V.int j from r2)
      exact ⟨i, j, rfl, q S H rel.step _ rfl⟩
    | _ => cases ho
  | _ => cases c <;> cases ho
def oInt : D → Option D
  | .int i => some (.int i)
  | .bl k => some (.int (if k then 1 else 0))
  | .str a => match PySem.intText? a with
    | some n => if a.length ≤ 640 then some (.int n) else none
    | none => none
  | _ => none
theorem de_int1 (hm : X.mg "int" = none) (ha : DA X W (e :: es) fas) (hg : Gl X "int" := by rfl) (he : starEach (e :: es) X.env = (false, eval e X.env) :: starEach es X.env := by rfl) (hpl : (backTo pos (starEach es X.env)).any (·.1) = false := by rfl) :
    DE X W (.Call (.Name "int" p) (e :: es) [] pos) (eBind fas (g1 fun a => eOn a oInt)) := by
  refine de_callTy (CallR.or call_int1 call_int_str) hm (by decide +kernel) ha (fun S env σ H Q as vs rv z => ?_) hg (he := he) (hpl := hpl)
  obtain ⟨a, v, rfl, ra, z⟩ := z.g1 rv
  obtain ⟨d, x, r1, ho, rel, q⟩ := z.on ra
  cases d with
  | int i =>
    cases ho
    cases (show v = V.int i from r1)
    exact .inl (.inl ⟨i, rfl, q S H rel.step _ rfl⟩)
  | bl i =>
    cases ho
    cases (show v = V.bl i from r1)
    exact .inl (.inr ⟨i, rfl, q S H rel.step _ rfl⟩)
  | str y =>
    obtain ⟨rfl, hl⟩ := r1
    unfold oInt at ho
    dsimp only at ho
    split at ho
    · rename_i n hn
      split at ho
      · rename_i hz
        cases ho
        exact .inr ⟨y, n, rfl, hn, hz, q S H rel.step _ rfl⟩
      · cases ho
    · cases ho
  | _ => cases ho
/-! ## list(xs), tuple(xs) -/
def oListOf : D → Option D
  | .lst ds => some (.lst ds)
  | .frl ds => some (.lst ds)
  | .tup ds => some (.lst ds)
  | _ => none
def oTupOf : D → Option D
  | .lst ds => some (.tup ds)
  | .frl ds => some (.tup ds)
  | .tup ds => some (.tup ds)
  | _ => none
theorem de_listOf (hm : X.mg "list" = none) (ha : DA X W (e :: es) fas) (hg : Gl X "list" := by rfl) (he : starEach (e :: es) X.env = (false, eval e X.env) :: starEach es X.env := by rfl) (hpl : (backTo pos (starEach es X.env)).any (·.1) = false := by rfl) :
    DE X W (.Call (.Name "list" p) (e :: es) [] pos) (eBind fas (g1 fun a => eOn a oListOf)) := by
  refine de_callTy call_list_of hm (by decide +kernel) ha (fun S env σ H Q as vs rv z => ?_) hg (he := he) (hpl := hpl)
  obtain ⟨a, v, rfl, ra, z⟩ := z.g1 rv
  obtain ⟨d, x, r1, ho, rel, q⟩ := z.on ra
  have key : ∀ (ds : List D) (vs : List V) (b : Addr), x = .lst ds → v = .ref b → (SqL X.K H b vs ∨ SqT X.K H b vs) → ds.length ≤ sizeLine → Reps X.K S ds vs → ∃ p ys, [v] = [V.ref p] ∧ (SqL X.K H p ys ∨ SqT X.K H p ys) ∧ ∀ l, H l = none → Q (.ref l) (upd H l (.lst ys)) := fun ds vs b ex ev hq hl rr => by
    subst ex
    subst ev
    refine ⟨b, vs, rfl, hq, fun l hl' => ?_⟩
    have al := rel.alloc (o := .lst vs) hl'
    exact q _ _ al _ ⟨l, vs, rfl, upd_same, hl, Reps.mono al.le _ _ rr⟩
  cases d with
  | lst ds =>
    cases ho
    obtain ⟨b, vs, ev, hq, hl, _, rr⟩ := r1
    exact key ds vs b rfl ev (.inl (SqL.of hq)) hl rr
  | frl ds =>
    cases ho
    obtain ⟨b, vs, ev, hq, hl, _, rr⟩ := r1
    exact key ds vs b rfl ev (.inl hq) hl rr
  | tup ds =>
    cases ho
    obtain ⟨b, vs, ev, hq, hl, _, rr, _⟩ := r1
    exact key ds vs b rfl ev (.inr hq.sq) hl rr
  | _ => cases ho
theorem de_tupleOf (hm : X.mg "tuple" = none) (ha : DA X W (e :: es) fas) (hg : Gl X "tuple" := by rfl) (he : starEach (e :: es) X.env = (false, eval e X.env) :: starEach es X.env := by rfl) (hpl : (backTo pos (starEach es X.env)).any (·.1) = false := by rfl) :
    DE X W (.Call (.Name "tuple" p) (e :: es) [] pos) (eBind fas (g1 fun a => eOn a oTupOf)) := by
  refine de_callTy call_tuple_of hm (by decide +kernel) ha (fun S env σ H Q as vs rv z => ?_) hg (he := he) (hpl := hpl)
  obtain ⟨a, v, rfl, ra, z⟩ := z.g1 rv
  obtain ⟨d, x, r1, ho, rel, q⟩ := z.on ra
  have key : ∀ (ds : List D) (vs : List V) (b : Addr), x = .tup ds → v = .ref b → SqL X.K H b vs → ds.length ≤ sizeLine → Reps X.K S ds vs → ∃ p ys, [v] = [V.ref p] ∧ ((SqL X.K H p ys ∧ ∀ l, H l = none → Q (.ref l) (upd H l (.tup ys))) ∨ (SqT X.K H p ys ∧ Q (.ref p) H)) := fun ds vs b ex ev hq hl rr => by
    subst ex
    subst ev
    refine ⟨b, vs, rfl, .inl ⟨hq, fun l hl' => ?_⟩⟩
    have al := rel.alloc (o := .tup vs) hl'
    exact q _ _ al _ ⟨l, vs, rfl, .inl upd_same, hl, Reps.mono al.le _ _ rr⟩
  cases d with
  | lst ds =>
    cases ho
    obtain ⟨b, vs, ev, hq, hl, _, rr⟩ := r1
    exact key ds vs b rfl ev (SqL.of hq) hl rr
  | frl ds =>
    cases ho
    obtain ⟨b, vs, ev, hq, hl, _, rr⟩ := r1
    exact key ds vs b rfl ev hq hl rr
  | tup ds =>
    cases ho
    obtain ⟨b, vs, rfl, hq, hl, _, rr, hs⟩ := r1
    exact ⟨b, vs, rfl, .inr ⟨hq.sq, q S H rel.step _ ⟨b, vs, rfl, hs, hl, rr⟩⟩⟩
  | _ => cases ho
/-! ## slices -/
theorem reps_take {K : PySem.W.Frag} {S : Hp} : ∀ (n : Nat) {ds : List D} {vs : List V}, Reps K S ds vs → Reps K S (ds.take n) (vs.take n)
  | 0, _, _, _ => rfl
  | n + 1, [], _, h => by cases h; rfl
  | n + 1, d :: ds, _, h => by
    obtain ⟨v, r, e, p, q⟩ := h
    subst e
    exact ⟨v, r.take n, rfl, p, reps_take n q⟩
theorem reps_drop {K : PySem.W.Frag} {S : Hp} : ∀ (n : Nat) {ds : List D} {vs : List V}, Reps K S ds vs → Reps K S (ds.drop n) (vs.drop n)
  | 0, _, _, h => h
  | n + 1, [], _, h => by cases h; rfl
  | n + 1, d :: ds, _, h => by
    obtain ⟨v, r, e, p, q⟩ := h
    subst e
    exact reps_drop n q
/-- the items from lo to hi -/
def cutD (xs : List D) (lo hi : Option Int) : List D := (xs.drop (HT.sIx xs.length 0 lo)).take (HT.sIx xs.length xs.length hi - HT.sIx xs.length 0 lo)
theorem reps_cut {K : PySem.W.Frag} {S : Hp} {ds : List D} {vs : List V} (lo hi : Option Int) (h : Reps K S ds vs) : Reps K S (cutD ds lo hi) (cutV vs lo hi) := by
  unfold cutD cutV
  rw [Reps.len h]
  exact reps_take _ (reps_drop _ h)
theorem cutD_len (xs : List D) (lo hi : Option Int) : (cutD xs lo hi).length ≤ xs.length := by
  unfold cutD
  rw [List.length_take, List.length_drop]
  omega
/-- a part of a slice -/
def ePart : Option (EF D) → EF (Option Int)
  | none => eRet none
  | some f => eBind f fun d => match d with
    | .int i => eRet (some i)
    | _ => fun _ => none
def RP : RR (Option Int) (Option Int) := fun _ _ a b => a = b
def DP (X : Cx) (W : WX) (e : Option Expr) (f : EF (Option Int)) : Prop := PO X e (tr X.K W RP f)
theorem po_imp {e : Option Expr} {t t' : TO} (h : PO X e t) (w : ∀ σ H Q, t' σ H Q → t σ H Q) : PO X e t' := ⟨fun pins s σ H Q I q => h.run pins s σ H Q I (w σ H Q q)⟩
theorem dp_none : DP X W none (ePart none) := by
  refine po_imp po_none ?_
  rintro σ H Q ⟨S, env, z⟩
  exact z.ret rfl
theorem dp_some {e : Expr} {f : EF D} (h : DE X W e f) : DP X W (some e) (ePart (some f)) := by
  refine po_imp (po_some h) ?_
  rintro σ H Q ⟨S, env, z⟩
  refine ⟨S, env, (At.bind (R := RD X.K) z).imp fun v H1 ⟨d, S1, e1, r, st, z1⟩ => ?_⟩
  cases d with
  | int i => exact ⟨i, r, z1.ret rfl⟩
  | _ => exact no_at z1
def oSl (lo hi : Option Int) : D → Option D
  | .lst ds => some (.lst (cutD ds lo hi))
  | .frl ds => some (.lst (cutD ds lo hi))
  | .tup ds => some (.tup (cutD ds lo hi))
  | .str z => some (.str (cutS z lo hi))
  | _ => none
def eSl (fa : EF AV) (fl fh : EF (Option Int)) : EF D := eBind fa fun a => eBind fl fun l => eBind fh fun h => eOn a (oSl l h)
abbrev rSl3 (K : PySem.W.Frag) : V → Option Int → Option Int → Hp → VK → Prop := fun x lo hi H Q => rSlL K x lo hi H Q ∨ rSlA K x lo hi H Q ∨ rSlS x lo hi H Q
theorem sl3 : SlR X (rSl3 X.K) := SlR.or sl_list (SlR.or sl_tupA sl_str)
theorem de_sl {e : Expr} {lo hi : Option Expr} {fa : EF AV} {fl fh : EF (Option Int)} {p2 : Pos} (ha : DV X W e fa) (hl : DP X W lo fl) (hh : DP X W hi fh) : DE X W (.Subscript e (.Slice lo hi none p2) pos) (eSl fa fl fh) := by
  refine pe_imp (pe_slice sl3 ha hl hh) ?_
  rintro σ H Q ⟨S, env, z⟩
  refine ⟨S, env, (At.bind (R := RAv X.K) z).imp fun v H1 ⟨a, S1, e1, ra, st, z1⟩ => ?_⟩
  refine ⟨S1, e1, (At.bind (R := RP) z1).imp fun l H2 ⟨l', S2, e2, rl, st2, z2⟩ => ?_⟩
  refine ⟨S2, e2, (At.bind (R := RP) z2).imp fun h H3 ⟨h', S3, e3, rh, st3, z3⟩ => ?_⟩
  obtain rfl : l' = l := rl
  obtain rfl : h' = h := rh
  obtain ⟨d, x, r1, ho, rel, q⟩ := z3.on ((ra.mono st2.le).mono st3.le)
  have key : ∀ (ds : List D) (vs : List V) (b : Addr), x = .lst (cutD ds l' h') → v = .ref b → SqL X.K H3 b vs → ds.length ≤ sizeLine → Reps X.K S3 ds vs → rSlL X.K v l' h' H3 Q := fun ds vs b ex ev hq hl rr => by
    subst ex
    subst ev
    refine ⟨b, vs, rfl, hq, fun p hp => ?_⟩
    have al := rel.alloc (o := .lst (cutV vs l' h')) hp
    exact q _ _ al _ ⟨p, _, rfl, upd_same, Nat.le_trans (cutD_len ds l' h') hl, reps_cut _ _ (Reps.mono al.le _ _ rr)⟩
  cases d with
  | lst ds =>
    cases ho
    obtain ⟨b, vs, ev, hq, hl, _, rr⟩ := r1
    exact .inl (key ds vs b rfl ev (SqL.of hq) hl rr)
  | frl ds =>
    cases ho
    obtain ⟨b, vs, ev, hq, hl, _, rr⟩ := r1
    exact .inl (key ds vs b rfl ev hq hl rr)
  | tup ds =>
    cases ho
    obtain ⟨b, vs, rfl, hq, hl, _, rr, hs⟩ := r1
    refine .inr (.inl ⟨b, vs, rfl, hq.sq, fun hw => ?_, fun _ p hp => ?_⟩)
    · have ew : cutD ds l' h' = ds := by
        unfold cutD
        have hl' := Reps.len rr
        rw [← hl'] at hw
        rw [hw.1, hw.2, List.drop_zero, Nat.sub_zero, List.take_length]
      rw [ew] at q
      exact q S3 H3 rel.step _ ⟨b, vs, rfl, hs, hl, rr⟩
    · have al := rel.alloc (o := .tup (cutV vs l' h')) hp
      exact q _ _ al _ ⟨p, _, rfl, .inl upd_same, Nat.le_trans (cutD_len ds l' h') hl, reps_cut _ _ (Reps.mono al.le _ _ rr)⟩
  | str z =>
    cases ho
    obtain ⟨rfl, hl⟩ := r1
    exact .inr (.inr ⟨z, rfl, hl, q S3 H3 rel.step _ ⟨rfl, Nat.le_trans (cutS_length z _ _) hl⟩⟩)
  | _ => cases ho
/-! ## sep.join(texts) -/
def oJoin (d c : D) : Option D := match d with
  | .str a => match c with
    | .lst ds => match dStrs ds with
      | some ys => if (ys.map (·.length)).sum + ys.length * a.length ≤ 16777216 then if (Txt.join a ys).length ≤ sizeLine then some (.str (Txt.join a ys)) else none else none
      | none => none
    | .tup ds => match dStrs ds with
      | some ys => if (ys.map (·.length)).sum + ys.length * a.length ≤ 16777216 then if (Txt.join a ys).length ≤ sizeLine then some (.str (Txt.join a ys)) else none else none
      | none => none
    | _ => none
  | _ => none
def eJoin (fo : EF D) (fa : EF AV) : EF D := eBind fo fun o => match o with
  | .str z => eBind fa fun a => eOn2 (.d (.str z)) a oJoin
  | _ => fun _ => none
theorem de_join {o e : Expr} {fo : EF D} {fa : EF AV} {apos : Pos} (ho : DE X W o fo) (ha : DV X W e fa) (hs : starEach [e] X.env = [(false, eval e X.env)] := by rfl) (hbase : attributeBase o "join" X.env (eval o X.env) = eval o X.env := by rfl) (hline : (apos.endLine == pos.line) = true := by rfl) :
    DE X W (.Call (.Attribute o "join" apos) [e] [] pos) (eJoin fo fa) := by
  refine pe_imp (pe_join ho ha hs hbase hline) ?_
  rintro σ H Q ⟨S, env, z⟩
  refine ⟨S, env, (At.bind (R := RD X.K) z).imp fun v H1 ⟨o, S1, e1, ro, st, z1⟩ => ?_⟩
  cases o with
  | str a =>
    obtain ⟨rfl, hla⟩ := ro
    refine ⟨⟨a, rfl⟩, S1, e1, (At.bind (R := RAv X.K) z1).imp fun u H2 ⟨x, S2, e2, ru, st2, z2⟩ => ?_⟩
    obtain ⟨d, c, w, r1, r2, ho, rel, q⟩ := z2.on2 (v := V.str a) (a := .d (.str a)) ⟨rfl, hla⟩ ru
    cases d with
    | str a' =>
      cases r1.1
      cases c with
      | lst ds =>
        unfold oJoin at ho
        dsimp only at ho
        split at ho
        · rename_i ys hys
          split at ho
          · rename_i h1
            split at ho
            · rename_i h2
              cases ho
              obtain ⟨b, vs, rfl, hq, hl, _, rr⟩ := r2
              obtain ⟨ev, _, _⟩ := dStrs_v hys rr
              subst ev
              exact ⟨a, b, ys, rfl, rfl, .inl (SqL.of hq), h1, q S2 H2 rel.step _ ⟨rfl, h2⟩⟩
            · cases ho
          · cases ho
        · cases ho
      | tup ds =>
        unfold oJoin at ho
        dsimp only at ho
        split at ho
        · rename_i ys hys
          split at ho
          · rename_i h1
            split at ho
            · rename_i h2
              cases ho
              obtain ⟨b, vs, rfl, hq, hl, _, rr, _⟩ := r2
              obtain ⟨ev, _, _⟩ := dStrs_v hys rr
              subst ev
              exact ⟨a, b, ys, rfl, rfl, .inr hq.sq, h1, q S2 H2 rel.step _ ⟨rfl, h2⟩⟩
            · cases ho
          · cases ho
        · cases ho
      | _ => cases ho
    | _ => cases ho
  | _ => exact no_at z1
/-! ## chains -/
def eChain (fa fb fc : EF AV) (op op' : D → D → Option D) : EF D := eBind fa fun x => eBind fb fun y => eBind (eOn2 x y op) fun k => match k with
  | .bl true => eBind fc fun z => eOn2 y z op'
  | .bl false => eRet (.bl false)
  | _ => fun _ => none
theorem de_chain {o o' : CmpOp} {r r' : R2} {op op' : D → D → Option D} {a b c : Expr} {fa fb fc : EF AV} (ho : OpR X (compareOp o) r) (hk : OpOk X.K r op) (ho' : OpR X (compareOp o') r') (hk' : OpOk X.K r' op') (ha : DV X W a fa) (hb : DV X W b fb) (hc : DV X W c fc)
    (hm : lastMarks [o, o'] [b, c] = false := by with_unfolding_all rfl) : DE X W (.Compare a [o, o'] [b, c] pos) (eChain fa fb fc op op') := by
  refine pe_imp (pe_chain ho ho' ha hb hc hm) ?_
  rintro σ H Q ⟨S, env, z⟩
  refine ⟨S, env, (At.bind (R := RAv X.K) z).imp fun vx H1 ⟨x, S1, e1, rx, st, z1⟩ => ?_⟩
  refine ⟨S1, e1, (At.bind (R := RAv X.K) z1).imp fun vy H2 ⟨y, S2, e2, ry, st2, z2⟩ => ?_⟩
  have z3 := At.bind (R := RD X.K) z2
  obtain ⟨d, d', w, r1, r2, e, rel, q⟩ := z3.on2 (rx.mono st2.le) ry
  refine hk S2 e2 σ H2 _ d d' vx vy w rel r1 r2 e fun S' H' st3 v rv => ?_
  obtain ⟨k, S3, e3, rk, st4, z4⟩ := q S' H' st3 v rv
  cases k with
  | bl k =>
    refine ⟨k, rk, ?_⟩
    cases k with
    | false => exact iteF (z4.ret rfl)
    | true =>
      refine iteT ⟨S3, e3, (At.bind (R := RAv X.K) z4).imp fun vz H4 ⟨zz, S4, e4, rz, st5, z5⟩ => ?_⟩
      obtain ⟨d, d', w, r1, r2, e, rel, q⟩ := z5.on2 ((ry.mono st4.le).mono st5.le) rz
      exact hk' S4 e4 σ H4 Q d d' vy vz w rel r1 r2 e q
  | _ => exact no_at z4
theorem dt_chain {o o' : CmpOp} {r r' : R2} {op op' : D → D → Option D} {a b c : Expr} {fa fb fc : EF AV} (ho : OpR X (compareOp o) r) (hk : OpOk X.K r op) (ho' : OpR X (compareOp o') r') (hk' : OpOk X.K r' op') (ha : DV X W a fa) (hb : DV X W b fb) (hc : DV X W c fc)
    (hm : lastMarks [o, o'] [b, c] = false := by with_unfolding_all rfl) : DT X W (.Compare a [o, o'] [b, c] pos) (eT (eChain fa fb fc op op')) := by
  refine pt_imp (pt_chain ho ho' ha hb hc hm) ?_
  rintro σ H Q ⟨S, env, z⟩
  have z := At.bind (R := RD X.K) z
  refine ⟨S, env, (At.bind (R := RAv X.K) z).imp fun vx H1 ⟨x, S1, e1, rx, st, z1⟩ => ?_⟩
  refine ⟨S1, e1, (At.bind (R := RAv X.K) z1).imp fun vy H2 ⟨y, S2, e2, ry, st2, z2⟩ => ?_⟩
  have z3 := At.bind (R := RD X.K) z2
  obtain ⟨d, d', w, r1, r2, e, rel, q⟩ := z3.on2 (rx.mono st2.le) ry
  refine hk S2 e2 σ H2 _ d d' vx vy w rel r1 r2 e fun S' H' st3 v rv => ?_
  obtain ⟨k, S3, e3, rk, st4, z4⟩ := q S' H' st3 v rv
  have fin : ∀ v H', (∃ d S1 e1, RD X.K σ S1 d v ∧ Step X.K S env σ H S1 e1 σ H' ∧ At X.K W RB (asB d) S1 e1 σ H' Q) → ∃ k, v = .bl k ∧ Q k H' := fun v H' ⟨d, S1, e1, r, _, z⟩ => asB_of (R := RB) r z
  cases k with
  | bl k =>
    refine ⟨k, rk, ?_⟩
    cases k with
    | false => exact iteF (fin _ _ (z4.ret rfl))
    | true =>
      refine iteT ⟨S3, e3, (At.bind (R := RAv X.K) z4).imp fun vz H4 ⟨zz, S4, e4, rz, st5, z5⟩ => ?_⟩
      obtain ⟨d, d', w, r1, r2, e, rel, q⟩ := z5.on2 ((ry.mono st4.le).mono st5.le) rz
      exact hk' S4 e4 σ H4 _ d d' vy vz w rel r1 r2 e fun S' H' st v rv => fin v H' (q S' H' st v rv)
  | _ => exact no_at z4
end
end Mir

namespace Mir
open PySem PySem.Spec PyProof.Rows L2
/-! ## lists that change -/
/-- the list of a slot -/
def lstAt (env : ME) (i : Nat) : Option (Sl × List D) := match env[i]? with
  | some (some s) => match s.mo with
    | some (.lst ds) => some (s, ds)
    | _ => none
  | _ => none
theorem lstAt_inv {env : ME} {i : Nat} {s : Sl} {ds : List D} (h : lstAt env i = some (s, ds)) : env[i]? = some (some s) ∧ s.mo = some (.lst ds) := by
  unfold lstAt at h
  split at h
  · rename_i s' hs
    split at h
    · rename_i ds' hm
      cases h
      exact ⟨hs, hm⟩
    · cases h
  · cases h
/-- o.m(args), o a name that holds a list of its own (or a lent one) -/
def eMut (i : Nat) (fas : EF (List AV)) (op : List D → List AV → ME → Option (D × List D)) : EF D := fun env => match lstAt env i with
  | some _ => eBind fas (fun as env1 => match lstAt env1 i with
    | some (s, ds) => match op ds as env1 with
      | some (x, ds') => some (.ok x, env1.set i (some (s.put (.lst ds'))))
      | none => none
    | none => none) env
  | none => none
section
variable {X : Cx} {W : WX} {pos : Pos}
theorem de_mut (i : Nat) {x nm : Str} {id : String} {r : V → List V → Hp → VK → Prop} {apos cpos p : Pos} {e : Expr} {es : List Expr} {fas : EF (List AV)} {op : List D → List AV → ME → Option (D × List D)}
    (slot : Slot "list" nm id) (hty : typeOf (.builtin id) = pure (.type "method_descriptor")) (hmt : MtR X id r)
    (hop : ∀ S env σ H (Q : VK) a ds vs as ws y ds', Rel X.K S env σ H → σ[i]? = some (some (.ref a)) → (∃ s, env[i]? = some (some s) ∧ s.mo = some (.lst ds)) → H a = some (.lst vs) → ds.length ≤ sizeLine → Reps X.K S ds vs → RAs X.K σ S as ws → op ds as env = some (y, ds') →
      (∀ w vs', Reps X.K S ds' vs' → ds'.length ≤ sizeLine → (∀ S, Rep X.K S y w ∨ Rep X.K S y w) → Q w (upd H a (.lst vs'))) → r (.ref a) ws H Q)
    (ha : DA X W (e :: es) fas) (hN : X.N[i]? = some x := by rfl) (hv : Vis X.env.scope x := by first | exact Or.inl rfl | exact Or.inr (Or.inl rfl) | exact Or.inr (Or.inr rfl))
    (hd : (x == ("__debug__" : Str)) = false := by decide) (hcd : (x == ("__classdict__" : Str)) = false := by decide)
    (hbase : attributeBase (.Name x p) nm X.env (eval (.Name x p) X.env) = eval (.Name x p) X.env := by rfl)
    (hfew : ((backTo cpos (starEach (e :: es) X.env)).all (fun x => !x.1) && (backToKw cpos (keywordEach [] X.env)).all (fun x => x.1.isSome)
      && decide ((e :: es).length + ([] : List Keyword).length + (if ([] : List Keyword).isEmpty then 0 else 1) < 30)) = true := by rfl)
    (hline : (apos.endLine == cpos.line) = true := by rfl) (hs : starEach (e :: es) X.env = (false, eval e X.env) :: starEach es X.env := by rfl) (hplain : (backTo cpos (starEach es X.env)).any (·.1) = false := by rfl) :
    DE X W (.Call (.Attribute (.Name x p) nm apos) (e :: es) [] cpos) (eMut i fas op) := by
  refine pe_imp (pe_bm PySem.F.plainAttrs_list slot hty hmt (pe_var hN hv hd hcd) ha hbase hfew hline hs hplain) ?_
  rintro σ H Q ⟨S, env, rr, env', rel, ef, q⟩
  unfold eMut at ef
  cases h0 : lstAt env i with
  | none => rw [h0] at ef; cases ef
  | some p0 =>
    rw [h0] at ef
    obtain ⟨s0, ds0⟩ := p0
    obtain ⟨e1, e2⟩ := lstAt_inv h0
    obtain ⟨a, o, x1, x2, x3, x4⟩ := rel.obj i _ ⟨s0, e1, e2⟩
    obtain ⟨vs0, rfl, _, _⟩ := x4
    refine ⟨.ref a, x1, .inl ⟨rfl, vs0, SqL.of x2⟩, S, env, ?_⟩
    have z : At X.K W (RD X.K) (eBind fas (fun as env1 => match lstAt env1 i with
      | some (s, ds) => match op ds as env1 with
        | some (x, ds') => some (.ok x, env1.set i (some (s.put (.lst ds'))))
        | none => none
      | none => none)) S env σ H Q := ⟨rr, env', rel, ef, q⟩
    refine (At.bind (R := RAl X.K) z).imp fun ws H1 ⟨as, S1, en1, rw', st, z1⟩ => ?_
    obtain ⟨r1, en2, rel1, ef1, q1⟩ := z1
    dsimp only at ef1
    split at ef1
    · rename_i s ds hl
      split at ef1
      · rename_i y ds' ho
        cases ef1
        obtain ⟨e3, e4⟩ := lstAt_inv hl
        obtain ⟨a', o', y1, y2, y3, y4⟩ := rel1.obj i _ ⟨s, e3, e4⟩
        rw [x1] at y1
        cases y1
        obtain ⟨vs, rfl, hz, rv⟩ := y4
        refine hop S1 en1 σ H1 Q a ds vs as ws y ds' rel1 x1 ⟨s, e3, e4⟩ y2 hz rv rw' ho fun w vs' rv' hz' ry => ?_
        exact q1 S1 _ (rel1.mut e3 e4 x1 (m' := .lst ds') ⟨vs', rfl, hz', rv'⟩) w ((ry S1).elim (fun h => h) fun h => h)
      · cases ef1
    · cases ef1
/-- x.append(e) -/
def oAppend (ds : List D) (as : List AV) (_ : ME) : Option (D × List D) := match as with
  | [.d d] => if ds.length < sizeLine then some (.non, ds ++ [d]) else none
  | _ => none
theorem de_append (i : Nat) {x : Str} {apos cpos p : Pos} {e : Expr} {fas : EF (List AV)} (ha : DA X W [e] fas) (hN : X.N[i]? = some x := by rfl) (hv : Vis X.env.scope x := by first | exact Or.inl rfl | exact Or.inr (Or.inl rfl) | exact Or.inr (Or.inr rfl))
    (hd : (x == ("__debug__" : Str)) = false := by decide) (hcd : (x == ("__classdict__" : Str)) = false := by decide)
    (hbase : attributeBase (.Name x p) "append" X.env (eval (.Name x p) X.env) = eval (.Name x p) X.env := by rfl)
    (hfew : ((backTo cpos (starEach [e] X.env)).all (fun x => !x.1) && (backToKw cpos (keywordEach [] X.env)).all (fun x => x.1.isSome)
      && decide (([e]).length + ([] : List Keyword).length + (if ([] : List Keyword).isEmpty then 0 else 1) < 30)) = true := by rfl)
    (hline : (apos.endLine == cpos.line) = true := by rfl) (hs : starEach [e] X.env = (false, eval e X.env) :: starEach [] X.env := by rfl) (hplain : (backTo cpos (starEach [] X.env)).any (·.1) = false := by rfl) :
    DE X W (.Call (.Attribute (.Name x p) "append" apos) [e] [] cpos) (eMut i fas oAppend) := by
  refine de_mut i PySem.F.slot_list_append PySem.F.type_list_append mt_append (fun S env σ H Q a ds vs as ws y ds' rel hσ hi hH hz rv ra ho q => ?_) ha hN hv hd hcd hbase hfew hline hs hplain
  unfold oAppend at ho
  split at ho
  · rename_i d
    split at ho
    · rename_i hlt
      cases ho
      obtain ⟨v, rs, rfl, h1, h2⟩ := ra
      cases h2
      have hlen := Reps.len rv
      refine ⟨a, vs, v, rfl, rfl, hH, by rw [← hlen]; exact hlt, ?_⟩
      exact q .non (vs ++ [v]) (reps_app rv ⟨v, [], rfl, h1, rfl⟩) (by rw [List.length_append, List.length_singleton]; omega) fun _ => .inl rfl
    · cases ho
  · cases ho
/-- x.extend(ys), ys a list -/
def oExtend (ds : List D) (as : List AV) (_ : ME) : Option (D × List D) := match as with
  | [.d (.lst es)] => if ds.length + es.length ≤ sizeLine then some (.non, ds ++ es) else none
  | _ => none
theorem de_extend (i : Nat) {x : Str} {apos cpos p : Pos} {e : Expr} {fas : EF (List AV)} (ha : DA X W [e] fas) (hN : X.N[i]? = some x := by rfl) (hv : Vis X.env.scope x := by first | exact Or.inl rfl | exact Or.inr (Or.inl rfl) | exact Or.inr (Or.inr rfl))
    (hd : (x == ("__debug__" : Str)) = false := by decide) (hcd : (x == ("__classdict__" : Str)) = false := by decide)
    (hbase : attributeBase (.Name x p) "extend" X.env (eval (.Name x p) X.env) = eval (.Name x p) X.env := by rfl)
    (hfew : ((backTo cpos (starEach [e] X.env)).all (fun x => !x.1) && (backToKw cpos (keywordEach [] X.env)).all (fun x => x.1.isSome)
      && decide (([e]).length + ([] : List Keyword).length + (if ([] : List Keyword).isEmpty then 0 else 1) < 30)) = true := by rfl)
    (hline : (apos.endLine == cpos.line) = true := by rfl) (hs : starEach [e] X.env = (false, eval e X.env) :: starEach [] X.env := by rfl) (hplain : (backTo cpos (starEach [] X.env)).any (·.1) = false := by rfl) :
    DE X W (.Call (.Attribute (.Name x p) "extend" apos) [e] [] cpos) (eMut i fas oExtend) := by
  refine de_mut i PySem.F.slot_list_extend PySem.F.type_list_extend mt_extend (fun S env σ H Q a ds vs as ws y ds' rel hσ hi hH hz rv ra ho q => ?_) ha hN hv hd hcd hbase hfew hline hs hplain
  unfold oExtend at ho
  split at ho
  · rename_i d es
    split at ho
    · rename_i hlt
      cases ho
      obtain ⟨v, rs, rfl, h1, h2⟩ := ra
      cases h2
      obtain ⟨b, us, rfl, hb, hl, hr⟩ := h1
      have hlen := Reps.len rv
      have hlen2 := Reps.len hr
      refine ⟨a, b, vs, us, rfl, rfl, hH, rel.sub _ _ hb, by rw [← hlen, ← hlen2]; exact hlt, ?_⟩
      exact q .non (vs ++ us) (reps_app rv hr) (by rw [List.length_append]; exact hlt) fun _ => .inl rfl
    · cases ho
  · cases ho
/-- xs[k] = e, xs a name -/
def sPutIx (i : Nat) (fe : EF D) (fk : EF D) : SF := sBind fe fun d env => match lstAt env i with
  | some _ => sBind fk (fun k env => match k with
    | .int k => match lstAt env i with
      | some (s, ds) => match ixN ds.length k with
        | some j => some (.nx, env.set i (some (s.put (.lst (ds.set j d)))))
        | none => none
      | none => none
    | _ => none) env
  | none => none
theorem reps_set {K : PySem.W.Frag} {S : Hp} {d : D} {v : V} (h : Rep K S d v) : ∀ {ds : List D} {vs : List V} (j : Nat), Reps K S ds vs → Reps K S (ds.set j d) (vs.set j v)
  | [], _, j, r => by cases r; exact rfl
  | x :: ds, _, 0, r => by
    obtain ⟨w, rs, e, p, q⟩ := r
    subst e
    exact ⟨v, rs, rfl, h, q⟩
  | x :: ds, _, j + 1, r => by
    obtain ⟨w, rs, e, p, q⟩ := r
    subst e
    exact ⟨w, rs.set j v, rfl, p, reps_set h j q⟩
theorem ds_putIx (i : Nat) {x : Str} {p tp : Pos} {k e : Expr} {fe fk : EF D} (he : DE X W e fe) (hk : DE X W k fk) (hN : X.N[i]? = some x := by rfl) (hv : Vis X.env.scope x := by first | exact Or.inl rfl | exact Or.inr (Or.inl rfl) | exact Or.inr (Or.inr rfl))
    (hd : (x == ("__debug__" : Str)) = false := by decide) (hcd : (x == ("__classdict__" : Str)) = false := by decide)
    (ha : ∀ v, assign (.Subscript (.Name x p) k tp) X.env v = (do
      let ov ← holding [v] (eval (.Name x p) X.env)
      let iv ← holding [v, ov] (eval k X.env)
      standAt tp
      holding [v, ov, iv] (setItem ov iv v)
      release [v, ov, iv] []) := by intro _; rfl)
    (hs : swapsWithSole [.Subscript (.Name x p) k tp] e pos.line X.env = pure false := by rfl) (hw : swappedStores [.Subscript (.Name x p) k tp] e X.env = pure none := by rfl)
    (h1 : (assignEach [.Subscript (.Name x p) k tp] X.env).map (·.2) = [assign (.Subscript (.Name x p) k tp) X.env] := by rfl) : DS X W (.Assign [.Subscript (.Name x p) k tp] e pos) (sPutIx i fe fk) := by
  refine ps_imp (ps_asg he (pg_sub (pe_var hN hv hd hcd) hk set_list ha) hs hw h1) ?_
  rintro Dn σ H ⟨S, env, z⟩
  refine ⟨S, env, (AtS.bind (R := RD X.K) z).imp fun v H1 ⟨d, S1, en1, rd, st, z1⟩ => ?_⟩
  obtain ⟨o1, en', rel1, ef, q1⟩ := z1
  dsimp only at ef
  cases h0 : lstAt en1 i with
  | none => rw [h0] at ef; cases ef
  | some p0 =>
    rw [h0] at ef
    obtain ⟨s0, ds0⟩ := p0
    obtain ⟨e1, e2⟩ := lstAt_inv h0
    obtain ⟨a, o, x1, x2, x3, x4⟩ := rel1.obj i _ ⟨s0, e1, e2⟩
    refine ⟨.ref a, x1, S1, en1, ?_⟩
    have z2 : AtS X.K W (sBind fk (fun k env => match k with
      | .int k => match lstAt env i with
        | some (s, ds) => match ixN ds.length k with
          | some j => some (.nx, env.set i (some (s.put (.lst (ds.set j d)))))
          | none => none
        | none => none
      | _ => none)) S1 en1 σ H1 Dn := ⟨o1, en', rel1, ef, q1⟩
    refine (AtS.bind (R := RD X.K) z2).imp fun u H2 ⟨k, S2, en2, rk, st2, z3⟩ => ?_
    obtain ⟨o3, en3, rel3, ef3, q3⟩ := z3
    cases k with
    | int k =>
      dsimp only at ef3
      split at ef3
      · rename_i s ds hl
        split at ef3
        · rename_i j hj
          cases ef3
          obtain ⟨e3, e4⟩ := lstAt_inv hl
          obtain ⟨a', o', y1, y2, y3, y4⟩ := rel3.obj i _ ⟨s, e3, e4⟩
          rw [x1] at y1
          cases y1
          obtain ⟨vs, rfl, hz, rv⟩ := y4
          have hlen := Reps.len rv
          refine ⟨a, vs, k, j, rfl, rk, y2, by rw [← hlen]; exact hj, ?_⟩
          exact q3 _ _ _ (rel3.mut e3 e4 x1 (m' := .lst (ds.set j d)) ⟨vs.set j v, rfl, by rw [List.length_set]; exact hz, reps_set (Rep.mono st2.le _ _ rd) j rv⟩)
        · cases ef3
      · cases ef3
    | _ => cases ef3
end
end Mir

namespace Mir
open PySem PySem.Spec PyProof.Rows L2
/-! ## what is walked -/
/-- J gives ds, one at each turn, whatever else is made meanwhile -/
structure ItOk (K : PySem.W.Frag) (S : Hp) (J : It) (ds : List D) : Prop where
  goes : ∀ (i : Nat) (S' : Hp) (env : ME) (σ : St) (H : Hp), i < ds.length → Le S S' → Rel K S' env σ H → J.go i H
  stops : ∀ (S' : Hp) (env : ME) (σ : St) (H : Hp), Le S S' → Rel K S' env σ H → J.stop ds.length H
  yields : ∀ (i : Nat) (S' : Hp) (env : ME) (σ : St) (H : Hp) (x : V) (H' : Hp), i < ds.length → Le S S' → Rel K S' env σ H → J.yld i H x H' → ∃ S2 d, Step K S' env σ H S2 env σ H' ∧ ds[i]? = some d ∧ Rep K S2 d x ∧
    (∀ b, H b ≠ none → H' b = H b) ∧ (∀ b, S' b = none → H b ≠ none → S2 b = none)
def RI (K : PySem.W.Frag) : RR (List D) It := fun _ S ds J => ItOk K S J ds
def DI (X : Cx) (W : WX) (tg iter : Expr) (f : EF (List D)) : Prop := PI X tg iter (tr X.K W (RI X.K) f)
theorem pi_imp {X : Cx} {tg e : Expr} {t t' : TI} (h : PI X tg e t) (w : ∀ σ H Q, t' σ H Q → t σ H Q) : PI X tg e t' := ⟨fun pins s σ H Q I q => h.run pins s σ H Q I (w σ H Q q)⟩
/-! ### targets -/
abbrev TF := D → ME → Option ME
def trG (K : PySem.W.Frag) (f : TF) : TG := fun v σ H Q => ∃ S env d env', Rel K S env σ H ∧ Rep K S d v ∧ f d env = some env' ∧ ∀ S' σ' H', Step K S env σ H S' env' σ' H' → S' = S → H' = H → Q σ' H'
def DG (X : Cx) (tg : Expr) (f : TF) : Prop := PG X tg (trG X.K f)
theorem pg_imp {X : Cx} {e : Expr} {t t' : TG} (h : PG X e t) (w : ∀ v σ H Q, t' v σ H Q → t v σ H Q) : PG X e t' := ⟨fun pins s σ H v u Q I r q => h.run pins s σ H v u Q I r (w v σ H Q q)⟩
def gSl (i : Nat) : TF := fun d e => if isB e i then none else some (e.set i (some (.v d)))
section
variable {X : Cx} {W : WX} {pos : Pos}
theorem dg_name (i : Nat) {x : Str} (hN : X.N.Nodup) (hi : X.N[i]? = some x := by rfl) (hx : Loc X.env.scope x := by first | exact Or.inl rfl | exact Or.inr rfl) (hf : X.fn x = true ∨ X.env.scope.names.lookup x = some .local := by first | exact .inl rfl | exact .inr rfl | assumption) : DG X (.Name x pos) (gSl i) := by
  refine pg_imp (pg_name hN hi hx hf) ?_
  rintro v σ H Q ⟨S, env, d, env', rel, rd, e, q⟩
  unfold gSl at e
  cases hb : isB env i with
  | true => rw [hb] at e; cases e
  | false =>
    rw [hb] at e
    cases e
    exact q _ _ _ (rel.setV (notB_of hb) rd) rfl rfl
/-- several -/
def gSls : List TF → List D → ME → Option ME
  | [], [], e => some e
  | f :: fs, d :: ds, e => match f d e with
    | some e1 => gSls fs ds e1
    | none => none
  | _, _, _ => none
def trGs (K : PySem.W.Frag) (fs : List TF) : TGs := fun vs σ H Q => ∃ S env ds env', Rel K S env σ H ∧ Reps K S ds vs ∧ gSls fs ds env = some env' ∧ ∀ S' σ' H', Step K S env σ H S' env' σ' H' → S' = S → H' = H → Q σ' H'
def DGs (X : Cx) (tgs : List Expr) (fs : List TF) : Prop := PGs X tgs (trGs X.K fs)
theorem pgs_imp {X : Cx} {e : List Expr} {t t' : TGs} (h : PGs X e t) (w : ∀ v σ H Q, t' v σ H Q → t v σ H Q) : PGs X e t' := ⟨fun pins s σ H v u Q I r q => h.run pins s σ H v u Q I r (w v σ H Q q)⟩
theorem dgs_nil : DGs X [] [] := by
  refine pgs_imp pgs_nil ?_
  rintro vs σ H Q ⟨S, env, ds, env', rel, rd, e, q⟩
  cases ds with
  | nil => cases rd; cases e; exact ⟨rfl, q _ _ _ rel.step rfl rfl⟩
  | cons d ds => cases e
theorem dgs_cons {e : Expr} {es : List Expr} {f : TF} {fs : List TF} (h1 : DG X e f) (h2 : DGs X es fs) (hs : (assignEach (e :: es) X.env).map (·.2) = assign e X.env :: (assignEach es X.env).map (·.2) := by rfl) : DGs X (e :: es) (f :: fs) := by
  refine pgs_imp (pgs_cons h1 h2 hs) ?_
  rintro vs σ H Q ⟨S, env, ds, env', rel, rd, e, q⟩
  cases ds with
  | nil => cases e
  | cons d ds =>
    obtain ⟨v, r, rfl, r1, r2⟩ := rd
    unfold gSls at e
    split at e
    · rename_i e1 he
      refine ⟨v, r, rfl, S, env, d, e1, rel, r1, he, fun S' σ' H' st es eh => ?_⟩
      subst es eh
      exact ⟨_, e1, ds, env', st.rel, r2, e, fun S2 σ2 H2 st2 es2 eh2 => q S2 σ2 H2 (st.trans st2) es2 eh2⟩
    · cases e
def gTupM (fs : List TF) : TF := fun d e => match d with
  | .tup ds => if ds.length = fs.length then gSls fs ds e else none
  | _ => none
theorem dg_tup {es : List Expr} {k : Nat} {fs : List TF} (hc : X.calm = true) (h : DGs X es fs) (hn : (assignEach es X.env).length = fs.length := by rfl) (hst : (assignEach es X.env).findIdx? (·.1) = none := by rfl) : DG X (.Tuple es k pos) (gTupM fs) := by
  refine pg_imp (pg_tup hc h hn hst) ?_
  rintro v σ H Q ⟨S, env, d, env', rel, rd, e, q⟩
  cases d with
  | tup ds =>
    unfold gTupM at e
    dsimp only at e
    split at e
    · rename_i hl
      obtain ⟨a, vs, rfl, hq, hz, rr⟩ := rd
      exact ⟨a, vs, rfl, ((Le.of rel.sub).tupAt hq).sq, by rw [← Reps.len rr]; exact hl, S, env, ds, env', rel, rr, e, q⟩
    · cases e
  | _ => cases e
/-- a, b = e -/
def sTo (f : EF D) (g : TF) : SF := sBind f fun d e => match g d e with
  | some e1 => some (.nx, e1)
  | none => none
theorem ds_to {tg e : Expr} {f : EF D} {g : TF} (he : DE X W e f) (hg : DG X tg g) (hs : swapsWithSole [tg] e pos.line X.env = pure false := by rfl) (hw : swappedStores [tg] e X.env = pure none := by rfl)
    (h1 : (assignEach [tg] X.env).map (·.2) = [assign tg X.env] := by rfl) : DS X W (.Assign [tg] e pos) (sTo f g) := by
  refine ps_imp (ps_asg he hg hs hw h1) ?_
  rintro Dn σ H ⟨S, env, z⟩
  refine ⟨S, env, (AtS.bind (R := RD X.K) z).imp fun v H1 ⟨d, S1, en1, rd, st, z1⟩ => ?_⟩
  obtain ⟨o1, en', rel1, ef, q1⟩ := z1
  dsimp only at ef
  split at ef
  · rename_i e1 hg'
    cases ef
    exact ⟨S1, en1, d, _, rel1, rd, hg', fun S' σ' H' st _ _ => q1 S' σ' H' st⟩
  · cases ef
/-! ## for -/
def sLoop (tgt : TF) (body : SF) : List D → SF
  | [], e => some (.nx, e)
  | d :: ds, e => match tgt d e with
    | some e1 => match body e1 with
      | some (.nx, e2) => sLoop tgt body ds e2
      | some (.cnt, e2) => sLoop tgt body ds e2
      | some (.brk, e2) => some (.nx, e2)
      | r => r
    | none => none
def sFor (fi : EF (List D)) (tgt : TF) (body : SF) : SF := sBind fi fun ds => sLoop tgt body ds
theorem ds_for {tg iter : Expr} {body : List Stmt} {fi : EF (List D)} {g : TF} {fb : SF} (hp : PassesOwn (model X.prog X.w) X.A X.env X.xe) (hc : X.calm = true) (hi : DI X W tg iter fi) (hg : DG X tg g) (hb : DB X W body fb)
    (hs : ∀ x, foldedSetIterable iter X.env x = pure x := by intro _; rfl) : DS X W (.For tg iter body [] pos) (sFor fi g fb) := by
  refine ps_imp (ps_for hp hc hi hg hb hs) ?_
  rintro Dn σ H ⟨S, env, z⟩
  refine ⟨S, env, (AtS.bind (R := RI X.K) z).imp fun J H1 ⟨ds, S1, en1, io, st, z1⟩ => ?_⟩
  obtain ⟨o1, en', rel1, ef, q1⟩ := z1
  refine ⟨fun i m σ' H' => m = ds.length - i ∧ i ≤ ds.length ∧ ∃ S2 en2 o2 en3, Le S1 S2 ∧ Rel X.K S2 en2 σ' H' ∧ sLoop g fb (ds.drop i) en2 = some (o2, en3) ∧ ∀ S' σ2 H2, Step X.K S2 en2 σ' H' S' en3 σ2 H2 → PostS X.K W Dn o2 S' σ2 H2,
    ⟨ds.length, rfl, Nat.zero_le _, S1, en1, o1, en', Le.refl _, rel1, ef, q1⟩, ?_⟩
  rintro i m σ' H' ⟨rfl, hi, S2, en2, o2, en3, le, rel2, ef2, q2⟩
  by_cases hlt : i < ds.length
  · rw [List.drop_eq_getElem_cons hlt] at ef2
    unfold sLoop at ef2
    refine .inr ⟨io.goes i S2 en2 σ' H' hlt le rel2, fun σ3 H3 => ∃ S3 en4 o4 en5, Le S1 S3 ∧ Rel X.K S3 en4 σ3 H3 ∧ sLoop g fb (ds.drop (i + 1)) en4 = some (o4, en5) ∧ ∀ S' σ2 H2, Step X.K S3 en4 σ3 H3 S' en5 σ2 H2 → PostS X.K W Dn o4 S' σ2 H2,
      fun σ3 H3 h => ⟨ds.length - (i + 1), by omega, rfl, hlt, h⟩, fun x H3 hy => ?_⟩
    obtain ⟨S3, d, st3, hd, rd, _⟩ := io.yields i S2 en2 σ' H' x H3 hlt le rel2 hy
    rw [List.getElem?_eq_getElem hlt] at hd
    cases hd
    split at ef2
    · rename_i e1 hg1
      refine ⟨S3, en2, _, e1, st3.rel, rd, hg1, fun S4 σ4 H4 st4 es eh => ?_⟩
      have st34 := st3.trans st4
      have fin : ∀ (o5 : Out) (en5 : ME), fb e1 = some (o5, en5) → (∀ S' σ2 H2, Step X.K S2 en2 σ' H' S' en5 σ2 H2 → PostS X.K W ⟨fun σ3 H3 => ∃ S3 en4 o4 en5, Le S1 S3 ∧ Rel X.K S3 en4 σ3 H3 ∧ sLoop g fb (ds.drop (i + 1)) en4 = some (o4, en5) ∧ ∀ S' σ2 H2, Step X.K S3 en4 σ3 H3 S' en5 σ2 H2 → PostS X.K W Dn o4 S' σ2 H2, Dn.rt, Dn.nx,
          fun σ3 H3 => ∃ S3 en4 o4 en5, Le S1 S3 ∧ Rel X.K S3 en4 σ3 H3 ∧ sLoop g fb (ds.drop (i + 1)) en4 = some (o4, en5) ∧ ∀ S' σ2 H2, Step X.K S3 en4 σ3 H3 S' en5 σ2 H2 → PostS X.K W Dn o4 S' σ2 H2⟩ o5 S' σ2 H2) → trS X.K W fb ⟨fun σ3 H3 => ∃ S3 en4 o4 en5, Le S1 S3 ∧ Rel X.K S3 en4 σ3 H3 ∧ sLoop g fb (ds.drop (i + 1)) en4 = some (o4, en5) ∧ ∀ S' σ2 H2, Step X.K S3 en4 σ3 H3 S' en5 σ2 H2 → PostS X.K W Dn o4 S' σ2 H2, Dn.rt, Dn.nx,
          fun σ3 H3 => ∃ S3 en4 o4 en5, Le S1 S3 ∧ Rel X.K S3 en4 σ3 H3 ∧ sLoop g fb (ds.drop (i + 1)) en4 = some (o4, en5) ∧ ∀ S' σ2 H2, Step X.K S3 en4 σ3 H3 S' en5 σ2 H2 → PostS X.K W Dn o4 S' σ2 H2⟩ σ4 H4 :=
        fun o5 en5 h5 hq => ⟨S4, e1, o5, en5, st4.rel, h5, fun S' σ2 H2 st5 => hq S' σ2 H2 (st34.trans st5)⟩
      cases hb5 : fb e1 with
      | none => rw [hb5] at ef2; cases ef2
      | some p =>
        obtain ⟨o5, en5⟩ := p
        rw [hb5] at ef2
        refine fin o5 en5 hb5 fun S' σ2 H2 st6 => ?_
        cases o5 with
        | nx => exact ⟨S', en5, o2, en3, le.trans st6.le, st6.rel, ef2, fun S7 σ7 H7 st7 => q2 S7 σ7 H7 (st6.trans st7)⟩
        | cnt => exact ⟨S', en5, o2, en3, le.trans st6.le, st6.rel, ef2, fun S7 σ7 H7 st7 => q2 S7 σ7 H7 (st6.trans st7)⟩
        | brk =>
          have ef3 : some (Out.nx, en5) = some (o2, en3) := ef2
          cases ef3
          exact q2 S' σ2 H2 st6
        | ret r =>
          have ef3 : some (Out.ret r, en5) = some (o2, en3) := ef2
          cases ef3
          exact q2 S' σ2 H2 st6
        | ex x =>
          have ef3 : some (Out.ex x, en5) = some (o2, en3) := ef2
          cases ef3
          exact q2 S' σ2 H2 st6
    · cases ef2
  · have e : i = ds.length := by omega
    subst e
    rw [List.drop_length] at ef2
    cases ef2
    exact .inl ⟨io.stops S2 en2 σ' H' le rel2, q2 S2 σ' H' rel2.step⟩
/-! ## while -/
def sWhile (c : EF Bool) (body : SF) : Nat → SF
  | 0, _ => none
  | n + 1, e => match c e with
    | some (.ok false, e1) => some (.nx, e1)
    | some (.ok true, e1) => match body e1 with
      | some (.nx, e2) => sWhile c body n e2
      | some (.cnt, e2) => sWhile c body n e2
      | some (.brk, e2) => some (.nx, e2)
      | r => r
    | some (.ex x, e1) => some (.ex x, e1)
    | none => none
theorem sWhile_mono {c : EF Bool} {b : SF} : ∀ {n : Nat} {m : Nat} {e : ME} {r : Out × ME}, sWhile c b n e = some r → n ≤ m → sWhile c b m e = some r
  | 0, m, e, r, h, _ => by cases h
  | n + 1, 0, e, r, h, hm => by omega
  | n + 1, m + 1, e, r, h, hm => by
    unfold sWhile at h ⊢
    split at h
    · exact h
    · split at h
      · rename_i e1 h1 e2 h2
        exact sWhile_mono h (by omega)
      · rename_i e1 h1 e2 h2
        exact sWhile_mono h (by omega)
      · exact h
      · exact h
    · exact h
    · cases h
open Classical in
/-- however many turns -/
noncomputable def sWhl (c : EF Bool) (b : SF) : SF := fun e => if h : ∃ r, ∃ n, sWhile c b n e = some r then some h.choose else none
theorem sWhl_of {c : EF Bool} {b : SF} {n : Nat} {e : ME} {r : Out × ME} (h : sWhile c b n e = some r) : sWhl c b e = some r := by
  have hx : ∃ r, ∃ n, sWhile c b n e = some r := ⟨r, n, h⟩
  unfold sWhl
  rw [dif_pos hx]
  obtain ⟨m, hm⟩ := hx.choose_spec
  have h1 := sWhile_mono h (Nat.le_max_left n m)
  have h2 := sWhile_mono hm (Nat.le_max_right n m)
  rw [h1] at h2
  exact h2.symm
theorem sWhl_inv {c : EF Bool} {b : SF} {e : ME} {r : Out × ME} (h : sWhl c b e = some r) : ∃ n, sWhile c b n e = some r := by
  unfold sWhl at h
  split at h
  · rename_i hx
    obtain ⟨n, hn⟩ := hx.choose_spec
    cases h
    exact ⟨n, hn⟩
  · cases h
theorem ds_while {c : Expr} {body : List Stmt} {fc : EF Bool} {fb : SF} (hp : PassesOwn (model X.prog X.w) X.A X.env X.xe) (hc : DT X W c fc) (hb : DB X W body fb) : DS X W (.While c body [] pos) (sWhl fc fb) := by
  refine ps_imp (ps_while hp hc hb) ?_
  rintro Dn σ H ⟨S, env, o, env', rel, ef, q⟩
  obtain ⟨n, ef⟩ := sWhl_inv ef
  refine ⟨fun m σ' H' => ∃ S2 en2 o2 en3, Rel X.K S2 en2 σ' H' ∧ sWhile fc fb m en2 = some (o2, en3) ∧ ∀ S' σ2 H2, Step X.K S2 en2 σ' H' S' en3 σ2 H2 → PostS X.K W Dn o2 S' σ2 H2, ⟨n, S, env, o, env', rel, ef, q⟩, ?_⟩
  rintro m σ' H' ⟨S2, en2, o2, en3, rel2, ef2, q2⟩
  cases m with
  | zero => cases ef2
  | succ m =>
    unfold sWhile at ef2
    refine ⟨S2, en2, ?_⟩
    cases hce : fc en2 with
    | none => rw [hce] at ef2; cases ef2
    | some p =>
      obtain ⟨r1, e1⟩ := p
      rw [hce] at ef2
      refine ⟨r1, e1, rel2, hce, fun S3 H3 st3 => ?_⟩
      cases r1 with
      | ex x =>
        have ef3 : some (Out.ex x, e1) = some (o2, en3) := ef2
        cases ef3
        exact q2 S3 σ' H3 st3
      | ok b =>
        rintro b' rfl
        cases b with
        | false =>
          have ef3 : some (Out.nx, e1) = some (o2, en3) := ef2
          cases ef3
          exact iteF (q2 S3 σ' H3 st3)
        | true =>
          dsimp only at ef2
          refine iteT ⟨fun σ4 H4 => ∃ S2 en2 o2 en3, Rel X.K S2 en2 σ4 H4 ∧ sWhile fc fb m en2 = some (o2, en3) ∧ ∀ S' σ2 H2, Step X.K S2 en2 σ4 H4 S' en3 σ2 H2 → PostS X.K W Dn o2 S' σ2 H2, fun σ4 H4 h => ⟨m, Nat.lt_succ_self m, h⟩, ?_⟩
          cases hb5 : fb e1 with
          | none => rw [hb5] at ef2; cases ef2
          | some p =>
            obtain ⟨o5, en5⟩ := p
            rw [hb5] at ef2
            refine ⟨S3, e1, o5, en5, st3.rel, hb5, fun S' σ2 H2 st5 => ?_⟩
            have st6 := st3.trans st5
            cases o5 with
            | nx => exact ⟨S', en5, o2, en3, st6.rel, ef2, fun S7 σ7 H7 st7 => q2 S7 σ7 H7 (st6.trans st7)⟩
            | cnt => exact ⟨S', en5, o2, en3, st6.rel, ef2, fun S7 σ7 H7 st7 => q2 S7 σ7 H7 (st6.trans st7)⟩
            | brk =>
              have ef3 : some (Out.nx, en5) = some (o2, en3) := ef2
              cases ef3
              exact q2 S' σ2 H2 st6
            | ret r =>
              have ef3 : some (Out.ret r, en5) = some (o2, en3) := ef2
              cases ef3
              exact q2 S' σ2 H2 st6
            | ex x =>
              have ef3 : some (Out.ex x, en5) = some (o2, en3) := ef2
              cases ef3
              exact q2 S' σ2 H2 st6
end
end Mir

namespace Mir
open PySem PySem.Spec PyProof.Rows L2
/-! ## what a loop walks over -/
theorem reps_at2 {K : PySem.W.Frag} {S : Hp} : ∀ {ds : List D} {vs : List V} {i : Nat} {v : V}, Reps K S ds vs → vs[i]? = some v → ∃ d, ds[i]? = some d ∧ Rep K S d v
  | [], vs, i, v, h, e => by
    have h' : vs = [] := h
    subst h'
    simp at e
  | d :: ds, vs, i, v, h, e => by
    obtain ⟨w, r, rfl, p, q⟩ := h
    cases i with
    | zero =>
      simp at e
      subst e
      exact ⟨d, rfl, p⟩
    | succ j =>
      simp at e
      obtain ⟨d', e1, e2⟩ := reps_at2 q e
      exact ⟨d', by simpa using e1, e2⟩
section
variable {K : PySem.W.Frag} {S : Hp} {J : It} {ds : List D}
/-- a walk that leaves the heap as it is -/
theorem ItOk.still {G : Hp → Prop} {Y : Nat → Hp → V → Hp → Prop} (w : Walk J ds.length G Y) (hG : ∀ (S' : Hp) (H : Hp), Le S S' → Same S' H → G H)
    (hY : ∀ (i : Nat) (S' H : Hp) (x : V) (H' : Hp), Le S S' → Y i H x H' → H' = H ∧ ∃ d, ds[i]? = some d ∧ Rep K S' d x) : ItOk K S J ds := by
  refine ⟨fun i S' env σ H hi le rel => w.goes i H hi (hG S' H le rel.sub), fun S' env σ H le rel => w.stops H (hG S' H le rel.sub), fun i S' env σ H x H' hi le rel y => ?_⟩
  obtain ⟨e, d, h1, h2⟩ := hY i S' H x H' le (w.yields i H x H' hi (hG S' H le rel.sub) y)
  subst e
  exact ⟨S', d, rel.step, h1, h2, fun b _ => rfl, fun b h _ => h⟩
/-- .. that gives new pairs -/
theorem ItOk.pairs {G : Hp → Prop} {fx fy : Nat → Option V} (w : Walk J ds.length G (YPair fx fy)) (hG : ∀ (S' : Hp) (H : Hp), Le S S' → Same S' H → G H)
    (hY : ∀ (i : Nat) (S' : Hp) (x y : V), Le S S' → fx i = some x → fy i = some y → ∃ dx dy, ds[i]? = some (.tup [dx, dy]) ∧ Rep K S' dx x ∧ Rep K S' dy y) : ItOk K S J ds := by
  refine ⟨fun i S' env σ H hi le rel => w.goes i H hi (hG S' H le rel.sub), fun S' env σ H le rel => w.stops H (hG S' H le rel.sub), fun i S' env σ H x H' hi le rel y => ?_⟩
  obtain ⟨T, a, b, e1, e2, e3, e4, e5⟩ := w.yields i H x H' hi (hG S' H le rel.sub) y
  subst e1 e3
  obtain ⟨dx, dy, h1, h2, h3⟩ := hY i S' a b le e4 e5
  have st : Step K S' env σ H (upd S' T (.tup [a, b])) env σ (upd H T (.tup [a, b])) := rel.alloc e2
  refine ⟨_, _, st, h1, ⟨T, [a, b], rfl, .inl upd_same, by show 2 ≤ sizeLine; decide, a, [b], rfl, Rep.mono st.le _ _ h2, b, [], rfl, Rep.mono st.le _ _ h3, rfl⟩, fun c hc => ?_, fun c h hc => ?_⟩
  · exact upd_ne (fun z => hc (by rw [z]; exact e2))
  · rw [upd_ne (fun z => hc (by rw [z]; exact e2))]; exact h
theorem itOk_list {a : Addr} {vs : List V} (hq : SqL K S a vs) (r : Reps K S ds vs) : ItOk K S (Itl K a) ds := by
  have hl := Reps.len r
  refine ItOk.still (G := fun H => SqL K H a vs) (Y := YAt vs) (by rw [hl]; exact walk_list) (fun S' H le sm => (Le.of sm).sqL (le.sqL hq)) ?_
  rintro i S' H x H' le ⟨e, h⟩
  exact ⟨e, reps_at2 (Reps.mono le _ _ r) h⟩
theorem itOk_tup {a : Addr} {vs : List V} (hq : TupAt K S a vs) (r : Reps K S ds vs) : ItOk K S (Itt K a) ds := by
  have hl := Reps.len r
  refine ItOk.still (G := fun H => SqT K H a vs) (Y := YAt vs) (by rw [hl]; exact walk_tup) (fun S' H le sm => ((Le.of sm).tupAt (le.tupAt hq)).sq) ?_
  rintro i S' H x H' le ⟨e, h⟩
  exact ⟨e, reps_at2 (Reps.mono le _ _ r) h⟩
/-- a text's signs -/
def signs (x : Str) : List D := x.cps.toList.map fun c => .str ⟨#[c]⟩
theorem itOk_str {x : Str} : ItOk K S (Its x) (signs x) := by
  have hl : (signs x).length = x.cps.size := by unfold signs; simp
  refine ItOk.still (G := fun _ => True) (Y := fun i H v H' => H' = H ∧ ∃ c, x.cps[i]? = some c ∧ v = .str ⟨#[c]⟩) (by rw [hl]; exact walk_str) (fun S' H le sm => trivial) ?_
  rintro i S' H v H' le ⟨e, c, h, rfl⟩
  refine ⟨e, .str ⟨#[c]⟩, ?_, rfl, ?_⟩
  · unfold signs
    rw [List.getElem?_map]
    simp [h]
  · show 1 ≤ sizeLine; decide
def rng (lo : Int) (n : Nat) : List D := (List.range n).map fun i => .int (lo + (i : Nat))
theorem itOk_range {lo : Int} {n : Nat} : ItOk K S (Itr lo n) (rng lo n) := by
  have hl : (rng lo n).length = n := by unfold rng; simp
  refine ItOk.still (G := fun _ => 0 ≤ n) (Y := fun i H x H' => H' = H ∧ i < n ∧ x = .int (lo + i)) ?_ (fun S' H le sm => Nat.zero_le _) ?_
  · rw [hl]
    exact ⟨fun _ _ hi _ => hi, fun _ _ => Nat.le_refl _, fun _ _ _ _ hi _ y => ⟨y.1, hi, y.2⟩⟩
  rintro i S' H x H' le ⟨e, h, rfl⟩
  refine ⟨e, .int (lo + i), ?_, rfl⟩
  unfold rng
  rw [List.getElem?_map]
  simp [h]
def enm : Nat → List D → List D
  | _, [] => []
  | i, d :: ds => .tup [.int (i : Nat), d] :: enm (i + 1) ds
theorem enm_len : ∀ (i : Nat) (ds : List D), (enm i ds).length = ds.length
  | _, [] => rfl
  | i, d :: ds => by simp [enm, enm_len (i + 1) ds]
theorem enm_at : ∀ (i j : Nat) (ds : List D) (d : D), ds[j]? = some d → (enm i ds)[j]? = some (.tup [.int ((i + j : Nat) : Int), d])
  | i, 0, d0 :: ds, d, h => by simp at h; subst h; rfl
  | i, j + 1, d0 :: ds, d, h => by
    simp at h
    have := enm_at (i + 1) j ds d h
    have e : i + 1 + j = i + (j + 1) := by omega
    rw [e] at this
    simpa [enm] using this
theorem itOk_enum {a : Addr} {vs : List V} (hq : SqL K S a vs) (r : Reps K S ds vs) : ItOk K S (Ite K a) (enm 0 ds) := by
  have hl := Reps.len r
  refine ItOk.pairs (G := fun H => SqL K H a vs) (by rw [enm_len, hl]; exact walk_enum) (fun S' H le sm => (Le.of sm).sqL (le.sqL hq)) ?_
  intro i S' x y le hx hy
  cases hx
  obtain ⟨d, e1, e2⟩ := reps_at2 (Reps.mono le _ _ r) hy
  refine ⟨.int (i : Nat), d, ?_, rfl, e2⟩
  have := enm_at 0 i ds d e1
  simpa using this
def zipM : List D → List D → List D
  | a :: as, b :: bs => .tup [a, b] :: zipM as bs
  | _, _ => []
theorem zipM_len : ∀ (xs ys : List D), (zipM xs ys).length = min xs.length ys.length
  | [], ys => by simp [zipM]
  | x :: xs, [] => by simp [zipM]
  | x :: xs, y :: ys => by simp [zipM, zipM_len xs ys]
theorem zipM_at : ∀ (xs ys : List D) (i : Nat) (x y : D), xs[i]? = some x → ys[i]? = some y → (zipM xs ys)[i]? = some (.tup [x, y])
  | a :: xs, b :: ys, 0, x, y, h1, h2 => by simp at h1 h2; subst h1 h2; rfl
  | a :: xs, b :: ys, i + 1, x, y, h1, h2 => by
    simp at h1 h2
    simpa [zipM] using zipM_at xs ys i x y h1 h2
theorem itOk_zip {a b : Addr} {vs ws : List V} {es : List D} (hq : SqL K S a vs) (r : Reps K S ds vs) (hq2 : SqL K S b ws) (r2 : Reps K S es ws) : ItOk K S (Itz K a b) (zipM ds es) := by
  have hl := Reps.len r
  have hl2 := Reps.len r2
  refine ItOk.pairs (G := fun H => SqL K H a vs ∧ SqL K H b ws) (by rw [zipM_len, hl, hl2]; exact walk_zip rfl) (fun S' H le sm => ⟨(Le.of sm).sqL (le.sqL hq), (Le.of sm).sqL (le.sqL hq2)⟩) ?_
  intro i S' x y le hx hy
  obtain ⟨d, e1, e2⟩ := reps_at2 (Reps.mono le _ _ r) hx
  obtain ⟨d', e3, e4⟩ := reps_at2 (Reps.mono le _ _ r2) hy
  exact ⟨d, d', zipM_at _ _ _ _ _ e1 e3, e2, e4⟩
end
/-! ### the sources -/
def oIter : D → EF (List D)
  | .tup ds => eRet ds
  | .lst ds => eRet ds
  | .frl ds => eRet ds
  | .str x => eRet (signs x)
  | _ => fun _ => none
def eOf (f : EF D) : EF (List D) := eBind f oIter
def lsOf : D → Option (List D)
  | .lst ds => some ds
  | .frl ds => some ds
  | _ => none
theorem lsOf_rep {K : PySem.W.Frag} {S : Hp} {d : D} {ds : List D} {v : V} (h : lsOf d = some ds) (r : Rep K S d v) : ∃ a vs, v = .ref a ∧ SqL K S a vs ∧ Reps K S ds vs := by
  cases d with
  | lst xs =>
    cases h
    obtain ⟨a, vs, e, q, l, rr⟩ := r
    exact ⟨a, vs, e, .inl (.inl q), rr⟩
  | frl xs =>
    cases h
    obtain ⟨a, vs, e, q, l, rr⟩ := r
    exact ⟨a, vs, e, q, rr⟩
  | _ => cases h
theorem At.none {α β : Type} {K : PySem.W.Frag} {W : WX} {R : RR α β} {S : Hp} {env : ME} {σ : St} {H : Hp} {Q : β → Hp → Prop} {f : EF α} (h : At K W R f S env σ H Q) (e : f env = none) : False := by
  obtain ⟨r, e', rel, h1, _⟩ := h
  rw [e] at h1
  cases h1
section
variable {X : Cx} {W : WX} {pos : Pos} {tg : Expr}
theorem di_val {e : Expr} {f : EF D} (he : DE X W e f) : DI X W tg e (eOf f) := by
  refine ⟨fun pins s σ H R I h => ?_⟩
  obtain ⟨S, env, h⟩ := h
  refine thn (PE.run he pins s σ H _ I ⟨S, env, At.bind (R := RD X.K) h⟩) fun v s1 ⟨x, H1, I1, r1, d, S1, env1, rd, st, z⟩ => ?_
  cases d with
  | tup ds =>
    obtain ⟨a, vs, rfl, hq, l, rr⟩ := rd
    cases r1
    obtain ⟨its, rv, p, hz⟩ := I1.tuple ((Le.of st.rel.sub).tupAt hq).sq
    exact wpAny_pyIter_tuple (show s1.heap.IsTuple a its.toArray from p) (pi_one (tk := s1.toks) I1 _ (turn_tuple a _) ⟨_, Heap.get?_push_size _ rfl, rfl, rfl⟩ (z.ret (itOk_tup hq rr)))
  | lst ds =>
    obtain ⟨a, vs, rfl, hq, l, rr⟩ := rd
    cases r1
    have hq' : SqL X.K S1 a vs := .inl (.inl hq)
    obtain ⟨its, rv, p, hz⟩ := I1.list ((Le.of st.rel.sub).sqL hq')
    exact wpAny_pyIter_list p.isList (pi_one (tk := s1.toks) I1 _ (turn_list a _) ⟨_, Heap.get?_push_size _ rfl, rfl, rfl⟩ (z.ret (itOk_list hq' rr)))
  | frl ds =>
    obtain ⟨a, vs, rfl, hq, l, rr⟩ := rd
    cases r1
    obtain ⟨its, rv, p, hz⟩ := I1.list ((Le.of st.rel.sub).sqL hq)
    exact wpAny_pyIter_list p.isList (pi_one (tk := s1.toks) I1 _ (turn_list a _) ⟨_, Heap.get?_push_size _ rfl, rfl, rfl⟩ (z.ret (itOk_list hq rr)))
  | str y =>
    obtain ⟨rfl, hl⟩ := rd
    obtain ⟨t, rfl⟩ := r1
    have q := z.ret (itOk_str (K := X.K) (S := S1) (x := y))
    cases ha : y.cps.all (· < 128)
    · exact wpAny_pyIter_wide ha (pi_one (tk := s1.toks) I1 _ (turn_str _ y t "str_iterator" (.inr rfl)) ⟨_, Heap.get?_push_size _ rfl, rfl, rfl⟩ q)
    · exact wpAny_pyIter_ascii ha (pi_one (tk := s1.toks) I1 _ (turn_str _ y t "str_ascii_iterator" (.inl rfl)) ⟨_, Heap.get?_push_size _ rfl, rfl, rfl⟩ q)
  | _ => exact (z.none rfl).elim
/-- range(n), range(i, j) -/
def gRng1 : List AV → EF (List D)
  | [.d (.int j)] => if -(2 ^ 62) ≤ j ∧ j < 2 ^ 62 then eRet (rng 0 j.toNat) else fun _ => none
  | _ => fun _ => none
def gRng2 : List AV → EF (List D)
  | [.d (.int i), .d (.int j)] => if -(2 ^ 62) ≤ i ∧ i < 2 ^ 62 ∧ -(2 ^ 62) ≤ j ∧ j < 2 ^ 62 then eRet (rng i (j - i).toNat) else fun _ => none
  | _ => fun _ => none
theorem di_range1 {a : Expr} {f : EF (List AV)} {p : Pos} (hm : X.mg "range" = none) (ha : DA X W [a] f) (hs : starEach [a] X.env = [(false, eval a X.env)] := by rfl) (hg : Gl X "range" := by rfl) :
    DI X W tg (.Call (.Name "range" p) [a] [] pos) (eBind f gRng1) := by
  refine pi_imp (pi_range1 hg hm ha hs) ?_
  rintro σ H R ⟨S, env, z⟩
  refine ⟨S, env, (At.bind (R := RAl X.K) z).imp fun vs H1 ⟨as, S1, e1, r, st, z1⟩ => ?_⟩
  unfold gRng1 at z1
  split at z1
  · split at z1
    · rename_i j hj
      obtain ⟨v, r0, rfl, rv, e0⟩ := r
      have e0' : r0 = [] := e0
      have rv' : v = .int j := rv
      subst e0' rv'
      exact ⟨j, rfl, hj.1, hj.2, z1.ret itOk_range⟩
    · exact (z1.none rfl).elim
  · exact (z1.none rfl).elim
theorem di_range2 {a b : Expr} {f : EF (List AV)} {p : Pos} (hm : X.mg "range" = none) (ha : DA X W [a, b] f) (hs : starEach [a, b] X.env = [(false, eval a X.env), (false, eval b X.env)] := by rfl) (hs2 : starEach [b] X.env = [(false, eval b X.env)] := by rfl) (hg : Gl X "range" := by rfl) :
    DI X W tg (.Call (.Name "range" p) [a, b] [] pos) (eBind f gRng2) := by
  refine pi_imp (pi_range2 hg hm ha hs hs2) ?_
  rintro σ H R ⟨S, env, z⟩
  refine ⟨S, env, (At.bind (R := RAl X.K) z).imp fun vs H1 ⟨as, S1, e1, r, st, z1⟩ => ?_⟩
  unfold gRng2 at z1
  split at z1
  · split at z1
    · rename_i i j hj
      obtain ⟨v, r0, rfl, rv, w, r1, rfl, rw', e0⟩ := r
      have e0' : r1 = [] := e0
      have rv' : v = .int i := rv
      have rw2 : w = .int j := rw'
      subst e0' rv' rw2
      exact ⟨i, j, rfl, hj, z1.ret itOk_range⟩
    · exact (z1.none rfl).elim
  · exact (z1.none rfl).elim
/-- enumerate(list) -/
def gEnm : List AV → EF (List D)
  | [.d d] => match lsOf d with
    | some ds => eRet (enm 0 ds)
    | none => fun _ => none
  | _ => fun _ => none
theorem di_enum {a : Expr} {f : EF (List AV)} {p tpos : Pos} {elts : List Expr} {kk : Nat} (hm : X.mg "enumerate" = none) (ha : DA X W [a] f) (hs : starEach [a] X.env = [(false, eval a X.env)] := by rfl) (hg : Gl X "enumerate" := by rfl) :
    DI X W (.Tuple elts kk tpos) (.Call (.Name "enumerate" p) [a] [] pos) (eBind f gEnm) := by
  refine pi_imp (pi_enum hg hm ha hs) ?_
  rintro σ H R ⟨S, env, z⟩
  refine ⟨S, env, (At.bind (R := RAl X.K) z).imp fun vs H1 ⟨as, S1, e1, r, st, z1⟩ => ?_⟩
  unfold gEnm at z1
  split at z1
  · split at z1
    · rename_i d ds hd
      obtain ⟨v, r0, rfl, rv, e0⟩ := r
      have e0' : r0 = [] := e0
      subst e0'
      obtain ⟨a, xs, rfl, hq, rr⟩ := lsOf_rep hd rv
      exact ⟨a, xs, rfl, (Le.of z1.rel.sub).sqL hq, z1.ret (itOk_enum hq rr)⟩
    · exact (z1.none rfl).elim
  · exact (z1.none rfl).elim
/-- zip(list, list) -/
def gZip : List AV → EF (List D)
  | [.d d, .d d'] => match lsOf d, lsOf d' with
    | some ds, some es => eRet (zipM ds es)
    | _, _ => fun _ => none
  | _ => fun _ => none
theorem di_zip {a b : Expr} {f : EF (List AV)} {p tpos : Pos} {elts : List Expr} {kk : Nat} (hm : X.mg "zip" = none) (ha : DA X W [a, b] f) (hs : starEach [a, b] X.env = (false, eval a X.env) :: starEach [b] X.env := by rfl)
    (hpl : (backTo pos (starEach [b] X.env)).any (·.1) = false := by rfl) (hg : Gl X "zip" := by rfl) :
    DI X W (.Tuple elts kk tpos) (.Call (.Name "zip" p) [a, b] [] pos) (eBind f gZip) := by
  refine pi_imp (pi_zip hg hm ha hs hpl) ?_
  rintro σ H R ⟨S, env, z⟩
  refine ⟨S, env, (At.bind (R := RAl X.K) z).imp fun vs H1 ⟨as, S1, e1, r, st, z1⟩ => ?_⟩
  unfold gZip at z1
  split at z1
  · split at z1
    · rename_i d d' ds es hd hd'
      obtain ⟨v, r0, rfl, rv, w, r1, rfl, rw', e0⟩ := r
      have e0' : r1 = [] := e0
      subst e0'
      obtain ⟨a, xs, rfl, hq, rr⟩ := lsOf_rep hd rv
      obtain ⟨b, ys, rfl, hq2, rr2⟩ := lsOf_rep hd' rw'
      exact ⟨a, b, xs, ys, rfl, (Le.of z1.rel.sub).sqL hq, (Le.of z1.rel.sub).sqL hq2, z1.ret (itOk_zip hq rr hq2 rr2)⟩
    · exact (z1.none rfl).elim
  · exact (z1.none rfl).elim
end
/-! ### an own object that from now on is only read -/
def eFrz (i : Nat) : EF D := fun e => match e[i]? with
  | some (some (.v d)) => some (.ok d, e)
  | some (some (.o m)) => some (.ok m.d, e.set i (some (.v m.d)))
  | _ => none
theorem de_frz {X : Cx} {W : WX} (i : Nat) {x : Str} {pos : Pos} (hN : X.N[i]? = some x := by rfl) (hv : Vis X.env.scope x := by first | exact Or.inl rfl | exact Or.inr (Or.inl rfl) | exact Or.inr (Or.inr rfl))
    (hd : (x == ("__debug__" : Str)) = false := by decide) (hcd : (x == ("__classdict__" : Str)) = false := by decide) : DE X W (.Name x pos) (eFrz i) := by
  refine pe_imp (pe_var hN hv hd hcd) ?_
  rintro σ H Q ⟨S, env, r, env', rel, e, q⟩
  unfold eFrz at e
  split at e
  · rename_i d hd
    cases e
    obtain ⟨v, e1, e2⟩ := rel.val i d hd
    exact ⟨v, e1, q S H rel.step v e2⟩
  · rename_i m hm
    cases e
    obtain ⟨S', st⟩ := rel.frz hm
    obtain ⟨v, e1, e2⟩ := st.rel.val i m.d (List.getElem?_set_self (lt_of_at hm))
    exact ⟨v, e1, q S' H st v e2⟩
  · cases e
end Mir

namespace Mir
open PySem PySem.Spec PyProof.Rows L2
/-! ## slots wiped -/
theorem wipe_in {σ : St} {i : Nat} (hi : i < σ.length) : ∀ {vs : List Nat}, i ∈ vs → (wipe σ vs)[i]? = some none
  | v :: vs, h => by
    unfold wipe
    by_cases e : v = i
    · subst e
      exact List.getElem?_set_self (by rw [wipe_length]; exact hi)
    · rw [List.getElem?_set_ne e]
      rcases List.mem_cons.mp h with h | h
      · exact absurd h.symm e
      · exact wipe_in hi h
theorem wipe_eq {σ τ : St} {vs : List Nat} (hl : σ.length = τ.length) (h : ∀ j, j ∉ vs → σ[j]? = τ[j]?) : wipe σ vs = wipe τ vs := by
  apply List.ext_getElem?
  intro j
  by_cases hj : j ∈ vs
  · by_cases hb : j < σ.length
    · rw [wipe_in hb hj, wipe_in (by rw [← hl]; exact hb) hj]
    · rw [List.getElem?_eq_none (by rw [wipe_length]; omega), List.getElem?_eq_none (by rw [wipe_length]; omega)]
  · rw [wipe_out hj, wipe_out hj, h j hj]
theorem wipe_set {σ : St} {vs : List Nat} {i : Nat} {x : Option V} (hi : i ∈ vs) : wipe (σ.set i x) vs = wipe σ vs :=
  wipe_eq (by simp) fun j hj => by rw [List.getElem?_set_ne (fun e => hj (by rw [← e]; exact hi))]
theorem wipe_idem {σ : St} {vs : List Nat} : wipe (wipe σ vs) vs = wipe σ vs := wipe_eq (wipe_length _ _) fun j hj => wipe_out hj
def wipeE (e : ME) : List Nat → ME
  | [] => e
  | v :: vs => (wipeE e vs).set v none
theorem wipeE_some {e : ME} {i : Nat} {s : Sl} : ∀ {vs : List Nat}, (wipeE e vs)[i]? = some (some s) → e[i]? = some (some s) ∧ i ∉ vs
  | [], h => ⟨h, by simp⟩
  | v :: vs, h => by
    unfold wipeE at h
    by_cases hv : v = i
    · subst hv
      have := set_self h
      cases this
    · rw [List.getElem?_set_ne hv] at h
      obtain ⟨h1, h2⟩ := wipeE_some h
      exact ⟨h1, by simp [h2, Ne.symm hv]⟩
section
variable {K : PySem.W.Frag} {S S' : Hp} {env env' : ME} {σ σ' τ τ' : St} {H H' : Hp}
theorem Rel.wipe (r : Rel K S env σ H) : ∀ {vs : List Nat}, (∀ i ∈ vs, NotB env i) → Step K S env σ H S (wipeE env vs) (wipe σ vs) H
  | [], _ => r.step
  | v :: vs, h => by
    have st := Rel.wipe r (vs := vs) fun i hi => h i (List.mem_cons_of_mem _ hi)
    refine st.trans (st.rel.forget fun m e => ?_)
    exact h v List.mem_cons_self m (wipeE_some e).1
/-- slots of which nothing is said may differ -/
theorem Step.off (st : Step K S env τ H S' env' τ' H') (h : ∀ (i : Nat) (s : Sl), env[i]? = some (some s) → σ[i]? = τ[i]?) (h' : ∀ (i : Nat) (s : Sl), env'[i]? = some (some s) → σ'[i]? = τ'[i]?) (l : σ.length = τ.length) (l' : σ'.length = τ'.length) : Step K S env σ H S' env' σ' H' := by
  have ob : ∀ {e : ME} {i : Nat} {m : MO}, Has e i m → ∃ s, e[i]? = some (some s) := fun h => h.elim fun s h => ⟨s, h.1⟩
  have ow : ∀ {a : Addr}, OwnO env τ a → OwnO env σ a := fun ⟨i, m, e1, e2⟩ => ⟨i, m, e1, (h i _ e1).trans e2⟩
  refine ⟨⟨st.rel.len.trans l'.symm, st.rel.sub, fun i d e => ?_, fun i m e => ?_, fun i j m m' a e1 e2 e3 e4 => ?_⟩, st.le, fun b hb => ?_, fun b o e n => st.frame b o e fun ⟨i, m, e1, e2⟩ => n ⟨i, m, e1, ?_⟩, fun i m e => ?_, st.borr, fun a ha => ?_, ?_⟩
  · rw [h' i _ e]; exact st.rel.val i d e
  · obtain ⟨s, e0⟩ := ob e
    rw [h' i _ e0]; exact st.rel.obj i m e
  · obtain ⟨s, q⟩ := ob e1
    obtain ⟨s', q'⟩ := ob e2
    rw [h' i _ q] at e3
    rw [h' j _ q'] at e4
    exact st.rel.dis i j m m' a e1 e2 e3 e4
  · rcases st.fresh b hb with z | z | z
    · exact .inl z
    · exact .inr (.inl z)
    · exact .inr (.inr (ow z))
  · obtain ⟨s, q⟩ := ob e1
    rw [h i _ q]; exact e2
  · obtain ⟨⟨m', q1⟩, q2⟩ := st.bor i m e
    exact ⟨⟨m', q1⟩, by rw [h' i _ q1, h i _ e]; exact q2⟩
  · obtain ⟨i, m, e1, e2⟩ := ha
    rw [h' i _ e1] at e2
    rcases st.own a ⟨i, m, e1, e2⟩ with z | z
    · exact .inl (ow z)
    · exact .inr z
  · rw [l, l']; exact st.len
theorem less_upd {p : Addr} {o : HO} : less (upd H p o) p = less H p := by
  funext b
  unfold less upd
  by_cases e : b = p <;> simp [e]
theorem less_id {p : Addr} (h : H p = none) : less H p = H := by
  funext b
  unfold less
  by_cases e : b = p
  · subst e; simp [h]
  · simp [e]
/-- a step beside an object that is no slot's -/
theorem Step.lessen (st : Step K S env σ H S' env' σ' H') {p : Addr} {o : HO} (hp : H p = some o) (hS : S p = none) (n : ¬ Own env σ p) : Step K S env σ (less H p) S' env' σ' (less H' p) := by
  have nO : ¬ OwnO env σ p := fun h => n h.own
  have hS' : S' p = none := by
    cases e : S' p with
    | none => rfl
    | some u =>
      rcases st.fresh p (by rw [e]; simp) with z | z | z
      · exact absurd hS z
      · rw [hp] at z; cases z
      · exact absurd z nO
  have n' : ¬ Own env' σ' p := by
    rintro ⟨i, m, ⟨s, e1, e2⟩, e3⟩
    cases s with
    | v d => cases e2
    | o m' =>
      rcases st.own p ⟨i, m', e1, e3⟩ with z | z
      · exact nO z
      · rw [hp] at z; cases z
    | b m' =>
      obtain ⟨m0, q⟩ := st.borr i m' e1
      obtain ⟨_, q2⟩ := st.bor i m0 q
      exact n ⟨i, m0, ⟨_, q, rfl⟩, by rw [← q2]; exact e3⟩
  refine ⟨⟨st.rel.len, fun b u e => ?_, st.rel.val, fun i m e => ?_, st.rel.dis⟩, st.le, fun b hb => ?_, fun b u e nb => ?_, st.bor, st.borr, fun a ha => ?_, st.len⟩
  · have hb : b ≠ p := fun z => by subst z; rw [hS'] at e; cases e
    rw [less_ne hb]; exact st.rel.sub b u e
  · obtain ⟨a, u, e1, e2, e3, e4⟩ := st.rel.obj i m e
    have ha : a ≠ p := fun z => by subst z; exact n' ⟨i, m, e, e1⟩
    exact ⟨a, u, e1, by rw [less_ne ha]; exact e2, e3, e4⟩
  · rcases st.fresh b hb with z | z | z
    · exact .inl z
    · refine .inr (.inl ?_)
      by_cases e : b = p
      · subst e; exact less_same
      · rw [less_ne e]; exact z
    · exact .inr (.inr z)
  · have hb : b ≠ p := fun z => by subst z; rw [less_same] at e; cases e
    rw [less_ne hb] at e
    rw [less_ne hb]
    exact st.frame b u e nb
  · rcases st.own a ha with z | z
    · exact .inl z
    · refine .inr ?_
      by_cases e : a = p
      · subst e; exact less_same
      · rw [less_ne e]; exact z
end
/-! ## targets that store into vs -/
def trGv (vs : List Nat) (K : PySem.W.Frag) (f : TF) : TG := fun v σ H Q => ∃ S env d env', Rel K S env σ H ∧ Rep K S d v ∧ f d env = some env' ∧ ∀ S' σ' H', Step K S env σ H S' env' σ' H' → S' = S → H' = H → wipe σ' vs = wipe σ vs → Q σ' H'
def DGv (X : Cx) (vs : List Nat) (tg : Expr) (f : TF) : Prop := PG X tg (trGv vs X.K f)
section
variable {X : Cx} {W : WX} {pos : Pos} {vs : List Nat}
theorem dgv_name (i : Nat) {x : Str} (hN : X.N.Nodup) (hm : i ∈ vs := by decide) (hi : X.N[i]? = some x := by rfl) (hx : Loc X.env.scope x := by first | exact Or.inl rfl | exact Or.inr rfl) (hf : X.fn x = true ∨ X.env.scope.names.lookup x = some .local := by first | exact .inl rfl | exact .inr rfl | assumption) : DGv X vs (.Name x pos) (gSl i) := by
  refine pg_imp (pg_name hN hi hx hf) ?_
  rintro v σ H Q ⟨S, env, d, env', rel, rd, e, q⟩
  unfold gSl at e
  cases hb : isB env i with
  | true => rw [hb] at e; cases e
  | false =>
    rw [hb] at e
    cases e
    exact q _ _ _ (rel.setV (notB_of hb) rd) rfl rfl (wipe_set hm)
def trGvs (vs : List Nat) (K : PySem.W.Frag) (fs : List TF) : TGs := fun ws σ H Q => ∃ S env ds env', Rel K S env σ H ∧ Reps K S ds ws ∧ gSls fs ds env = some env' ∧ ∀ S' σ' H', Step K S env σ H S' env' σ' H' → S' = S → H' = H → wipe σ' vs = wipe σ vs → Q σ' H'
def DGvs (X : Cx) (vs : List Nat) (tgs : List Expr) (fs : List TF) : Prop := PGs X tgs (trGvs vs X.K fs)
theorem dgvs_nil : DGvs X vs [] [] := by
  refine pgs_imp pgs_nil ?_
  rintro ws σ H Q ⟨S, env, ds, env', rel, rd, e, q⟩
  cases ds with
  | nil => cases rd; cases e; exact ⟨rfl, q _ _ _ rel.step rfl rfl rfl⟩
  | cons d ds => cases e
theorem dgvs_cons {e : Expr} {es : List Expr} {f : TF} {fs : List TF} (h1 : DGv X vs e f) (h2 : DGvs X vs es fs) (hs : (assignEach (e :: es) X.env).map (·.2) = assign e X.env :: (assignEach es X.env).map (·.2) := by rfl) : DGvs X vs (e :: es) (f :: fs) := by
  refine pgs_imp (pgs_cons h1 h2 hs) ?_
  rintro ws σ H Q ⟨S, env, ds, env', rel, rd, e, q⟩
  cases ds with
  | nil => cases e
  | cons d ds =>
    obtain ⟨v, r, rfl, r1, r2⟩ := rd
    unfold gSls at e
    split at e
    · rename_i e1 he
      refine ⟨v, r, rfl, S, env, d, e1, rel, r1, he, fun S' σ' H' st es eh ew => ?_⟩
      subst es eh
      exact ⟨_, e1, ds, env', st.rel, r2, e, fun S2 σ2 H2 st2 es2 eh2 ew2 => q S2 σ2 H2 (st.trans st2) es2 eh2 (ew2.trans ew)⟩
    · cases e
theorem dgv_tup {es : List Expr} {k : Nat} {fs : List TF} (hc : X.calm = true) (h : DGvs X vs es fs) (hn : (assignEach es X.env).length = fs.length := by rfl) (hst : (assignEach es X.env).findIdx? (·.1) = none := by rfl) : DGv X vs (.Tuple es k pos) (gTupM fs) := by
  refine pg_imp (pg_tup hc h hn hst) ?_
  rintro v σ H Q ⟨S, env, d, env', rel, rd, e, q⟩
  cases d with
  | tup ds =>
    unfold gTupM at e
    dsimp only at e
    split at e
    · rename_i hl
      obtain ⟨a, ws, rfl, hq, hz, rr⟩ := rd
      exact ⟨a, ws, rfl, ((Le.of rel.sub).tupAt hq).sq, by rw [← Reps.len rr]; exact hl, S, env, ds, env', rel, rr, e, q⟩
    · cases e
  | _ => cases e
/-! ## [el for tg in iter if tst] -/
abbrev W0 : WX := fun _ _ _ _ => False
def cLoop (vs : List Nat) (tgt : TF) (tst : EF Bool) (el : EF D) : List D → List D → ME → Option (List D × ME)
  | [], acc, e => some (acc, e)
  | d :: ds, acc, e => match tgt d e with
    | some e1 => match tst e1 with
      | some (.ok true, e2) => match el e2 with
        | some (.ok x, e3) => cLoop vs tgt tst el ds (acc ++ [x]) (wipeE e3 vs)
        | _ => none
      | some (.ok false, e2) => cLoop vs tgt tst el ds acc (wipeE e2 vs)
      | _ => none
    | none => none
def offAt (vs : List Nat) (e : ME) : Bool := vs.all fun i => match e[i]? with
  | some (some _) => false
  | _ => true
theorem offAt_of {vs : List Nat} {e : ME} (h : offAt vs e = true) : ∀ i s, e[i]? = some (some s) → i ∉ vs := fun i s he hi => by
  have := List.all_eq_true.mp h i hi
  rw [he] at this
  cases this
def eLc (vs : List Nat) (fi : EF (List D)) (tgt : TF) (tst : EF Bool) (el : EF D) : EF FR := eBind fi fun ds e => if offAt vs e = true ∧ ds.length ≤ sizeLine then match cLoop vs tgt tst el ds [] e with
    | some (acc, e') => some (.ok (.o (.lst acc)), e')
    | none => none
  else none
theorem reps_snoc {K : PySem.W.Frag} {S : Hp} {d : D} {v : V} : ∀ {ds : List D} {vs : List V}, Reps K S ds vs → Rep K S d v → Reps K S (ds ++ [d]) (vs ++ [v])
  | [], vs, h, r => by
    have h' : vs = [] := h
    subst h'
    exact ⟨v, [], rfl, r, rfl⟩
  | a :: as, vs, h, r => by
    obtain ⟨w, ws, rfl, p, q⟩ := h
    exact ⟨w, ws ++ [v], rfl, p, reps_snoc q r⟩
theorem lc_tr {K : PySem.W.Frag} {fi : EF (List D)} {tgt : TF} {tst : EF Bool} {el : EF D} {σ : St} {H : Hp} {Q : VK} (h : trF K W (eLc vs fi tgt tst el) σ H Q) :
    tLc (tr K W (RI K) fi) (trGv vs K tgt) (tr K W0 RB tst) (tr K W0 (RD K) el) vs σ H Q := by
  obtain ⟨S, env, r, env', rel, ef, q⟩ := h
  unfold eLc eBind at ef
  refine ⟨S, env, ?_⟩
  cases ea : fi env with
  | none => rw [ea] at ef; cases ef
  | some p =>
    obtain ⟨r1, e1⟩ := p
    rw [ea] at ef
    cases r1 with
    | ex x =>
      have ef' : some (Res.ex x, e1) = some (r, env') := ef
      cases ef'
      exact ⟨.ex x, _, rel, ea, q⟩
    | ok ds =>
      refine ⟨.ok ds, e1, rel, ea, fun S1 H1 st J io L hL => ?_⟩
      dsimp only at ef
      split at ef
      · rename_i hc
        obtain ⟨hoff, hlen⟩ := hc
        split at ef
        · rename_i out e' hcl
          cases ef
          have hoff := offAt_of hoff
          have l0 : (wipe σ vs).length = σ.length := wipe_length _ _
          have st0 : Step K S1 e1 (wipe σ vs) H1 S1 e1 (wipe σ vs) H1 := st.rel.step.off (fun i s h => wipe_out (hoff i s h)) (fun i s h => wipe_out (hoff i s h)) l0 l0
          refine ⟨fun i m H => m = ds.length - i ∧ i ≤ ds.length ∧ ∃ S2 e2 acc vacc, Step K S1 e1 (wipe σ vs) H1 S2 e2 (wipe σ vs) (less H L) ∧ H L = some (.lst vacc) ∧ Reps K S2 acc vacc ∧ acc.length ≤ i ∧ (∀ i s, e2[i]? = some (some s) → i ∉ vs) ∧ cLoop vs tgt tst el (ds.drop i) acc e2 = some (out, env'),
            ⟨ds.length, rfl, Nat.zero_le _, S1, e1, [], [], by rw [less_upd, less_id hL]; exact st0, upd_same, rfl, Nat.zero_le _, hoff, hcl⟩, ?_⟩
          rintro i m H2 ⟨rfl, hi, S2, en2, acc, vacc, st2, hH, rr, hal, hoff2, hcl2⟩
          have bst : Step K S2 en2 (wipe σ vs) (less H2 L) S2 en2 (wipe σ vs) H2 := by
            have := st2.rel.beside (p := L) (o := .lst vacc) less_same
            rwa [upd_less hH] at this
          have nS : S2 L = none := by
            cases e : S2 L with
            | none => rfl
            | some u =>
              have := st2.rel.sub _ _ e
              rw [less_same] at this
              cases this
          have nO : ¬ Own en2 (wipe σ vs) L := by
            rintro ⟨j, m, h1, h2⟩
            obtain ⟨a, o, q1, q2, _, _⟩ := st2.rel.obj j m h1
            rw [h2] at q1
            cases q1
            rw [less_same] at q2
            cases q2
          by_cases hlt : i < ds.length
          · rw [List.drop_eq_getElem_cons hlt] at hcl2
            unfold cLoop at hcl2
            refine .inr ⟨io.goes i S2 en2 _ H2 hlt st2.le bst.rel, fun H3 => i + 1 ≤ ds.length ∧ ∃ S2 en2 acc vacc, Step K S1 e1 (wipe σ vs) H1 S2 en2 (wipe σ vs) (less H3 L) ∧ H3 L = some (.lst vacc) ∧ Reps K S2 acc vacc ∧ acc.length ≤ i + 1 ∧ (∀ i s, en2[i]? = some (some s) → i ∉ vs) ∧ cLoop vs tgt tst el (ds.drop (i + 1)) acc en2 = some (out, env'),
              fun H3 h3 => ⟨ds.length - (i + 1), by omega, rfl, h3⟩, fun x H3 hy => ?_⟩
            obtain ⟨S3, d, st3, hd, rd, _⟩ := io.yields i S2 en2 _ H2 x H3 hlt st2.le bst.rel hy
            rw [List.getElem?_eq_getElem hlt] at hd
            cases hd
            split at hcl2
            · rename_i e3 hg3
              refine ⟨S3, en2, _, e3, st3.rel, rd, hg3, fun S4 σ4 H4 st4 es eh ew => ?_⟩
              have ew' : wipe σ4 vs = wipe σ vs := ew.trans wipe_idem
              have st24 := st3.trans st4
              have fin : ∀ (S5 : Hp) (e5 : ME) (H5 : Hp), Step K S2 en2 (wipe σ vs) H2 S5 e5 σ4 H5 → Step K S1 e1 (wipe σ vs) H1 S5 (wipeE e5 vs) (wipe σ vs) (less H5 L) ∧ H5 L = some (.lst vacc) := fun S5 e5 H5 st5 => by
                refine ⟨?_, st5.frame L _ hH nO⟩
                have a := st2.trans (st5.lessen hH nS nO)
                have b := a.rel.wipe (vs := vs) fun j hj m hm => by
                  obtain ⟨m', hm'⟩ := a.borr j m hm
                  exact hoff j _ hm' hj
                rw [ew'] at b
                exact a.trans b
              refine ⟨ew', ?_⟩
              split at hcl2
              · rename_i e4 ht4
                refine ⟨S4, e3, .ok true, e4, st4.rel, ht4, fun S5 H5 st5 b hb => ?_⟩
                have hb' : true = b := hb
                subst hb'
                split at hcl2
                · rename_i y e5 hel
                  refine iteT ⟨S5, e4, .ok y, e5, st5.rel, hel, fun S6 H6 st6 w rw6 => ?_⟩
                  obtain ⟨f1, f2⟩ := fin S6 e5 H6 ((st24.trans st5).trans st6)
                  refine ⟨vacc, f2, by rw [← Reps.len rr]; omega, hlt, S6, wipeE e5 vs, acc ++ [y], vacc ++ [w], by rw [less_upd]; exact f1, upd_same, reps_snoc (Reps.mono ((st24.trans st5).trans st6).le _ _ rr) rw6, by simp; exact hal, fun j s h => (wipeE_some h).2, hcl2⟩
                · cases hcl2
              · rename_i e4 ht4
                refine ⟨S4, e3, .ok false, e4, st4.rel, ht4, fun S5 H5 st5 b hb => ?_⟩
                have hb' : false = b := hb
                subst hb'
                obtain ⟨f1, f2⟩ := fin S5 e4 H5 (st24.trans st5)
                exact iteF ⟨hlt, S5, wipeE e4 vs, acc, vacc, f1, f2, Reps.mono (st24.trans st5).le _ _ rr, Nat.le_succ_of_le hal, fun j s h => (wipeE_some h).2, hcl2⟩
              · cases hcl2
            · cases hcl2
          · have e : i = ds.length := by omega
            subst e
            rw [List.drop_length] at hcl2
            have hcl3 : some (acc, en2) = some (out, env') := hcl2
            cases hcl3
            refine .inl ⟨io.stops S2 _ _ H2 st2.le bst.rel, ?_⟩
            have full := st.trans (st2.off (fun i s h => (wipe_out (hoff i s h)).symm) (fun i s h => (wipe_out (hoff2 i s h)).symm) l0.symm l0.symm)
            have z := q S2 (less H2 L) full L (.lst vacc) less_same ⟨vacc, rfl, by omega, rr⟩
            rwa [upd_less hH] at z
        · cases ef
      · cases ef
def DTs (X : Cx) (W : WX) (ifs : List Expr) (f : EF Bool) : Prop := PTs X ifs (tr X.K W RB f)
theorem pts_imp {ifs : List Expr} {t t' : TT} (h : PTs X ifs t) (w : ∀ σ H Q, t' σ H Q → t σ H Q) : PTs X ifs t' := ⟨fun pins s σ H Q I q => h.run pins s σ H Q I (w σ H Q q)⟩
theorem dts_nil : DTs X W [] (eRet true) := by
  refine pts_imp pts_nil ?_
  rintro σ H Q ⟨S, env, z⟩
  exact At.ret (R := RB) z rfl
theorem dts_one {c : Expr} {f : EF Bool} (h : DT X W c f) : DTs X W [c] f := pts_one h
theorem df_lc {elt tg iter : Expr} {ifs : List Expr} {scope : Scope} {own : List (Str × Nat)} {fi : EF (List D)} {tgt : TF} {tst : EF Bool} {el : EF D} (hc : X.calm = true) (hN : X.N.Nodup) (hi : DI X W tg iter fi) (ok : BlkOk X.N X.env.scope scope own)
    (hg : ∀ (s : Shared) (H : Hp) (C : Addr) (cl : List (Str × Addr)) (fp : List Addr), DGv (X.blk s H scope (compEnvC scope cl C X.env) fp) (own.map (·.2)) tg tgt)
    (ht : ∀ (s : Shared) (H : Hp) (C : Addr) (cl : List (Str × Addr)) (fp : List Addr), DTs (X.blk s H scope (compEnvC scope cl C X.env) fp) W0 ifs tst)
    (he : ∀ (s : Shared) (H : Hp) (C : Addr) (cl : List (Str × Addr)) (fp : List Addr), DE (X.blk s H scope (compEnvC scope cl C X.env) fp) W0 elt el) (hs : ∀ x, foldedSetIterable iter X.env x = pure x := by intro _; rfl) :
    DF X W (.ListComp elt [⟨tg, iter, ifs, 0⟩] scope pos) (eLc (own.map (·.2)) fi tgt tst el) := pe_imp (pe_lc (g := trGv (List.map (fun p : Str × Nat => p.2) own) X.K tgt) (tt := tr X.K W0 RB tst) (te := tr X.K W0 (RD X.K) el) hc hN hi ok hg ht he hs) fun σ H Q h => lc_tr h
/-- name = [..], on the name's line -/
theorem ds_setLc (i : Nat) {y : Str} {py spos : Pos} {elt tg iter : Expr} {ifs : List Expr} {scope : Scope} {own : List (Str × Nat)} {fi : EF (List D)} {tgt : TF} {tst : EF Bool} {el : EF D} (hc : X.calm = true) (hN : X.N.Nodup) (hi : DI X W tg iter fi) (ok : BlkOk X.N X.env.scope scope own)
    (hg : ∀ (s : Shared) (H : Hp) (C : Addr) (cl : List (Str × Addr)) (fp : List Addr), DGv (X.blk s H scope (compEnvC scope cl C X.env) fp) (own.map (·.2)) tg tgt)
    (ht : ∀ (s : Shared) (H : Hp) (C : Addr) (cl : List (Str × Addr)) (fp : List Addr), DTs (X.blk s H scope (compEnvC scope cl C X.env) fp) W0 ifs tst)
    (he : ∀ (s : Shared) (H : Hp) (C : Addr) (cl : List (Str × Addr)) (fp : List Addr), DE (X.blk s H scope (compEnvC scope cl C X.env) fp) W0 elt el)
    (hsw : swapsWith (.ListComp elt [⟨tg, iter, ifs, 0⟩] scope pos) (some (.Name y py)) spos.line X.env = pure true) (hy : X.N[i]? = some y := by rfl) (hyl : X.env.scope.names.lookup y = some .local := by rfl) (hs : ∀ x, foldedSetIterable iter X.env x = pure x := by intro _; rfl) :
    DS X W (.Assign [.Name y py] (.ListComp elt [⟨tg, iter, ifs, 0⟩] scope pos) spos) (sSetF i (eLc (own.map (·.2)) fi tgt tst el)) := by
  refine ps_imp (ps_setLc (g := trGv (List.map (fun p : Str × Nat => p.2) own) X.K tgt) (tt := tr X.K W0 RB tst) (te := tr X.K W0 (RD X.K) el) hc hN hy hyl hsw hi ok hg ht he hs) ?_
  rintro Dn σ H ⟨S, env, z⟩
  exact lc_tr (trF_bind z fun r S1 e1 H1 z1 => putF_end z1)
end
end Mir

namespace Mir
open PySem PySem.Spec PyProof.Rows L2
section
variable {X : Cx} {W : WX} {pos : Pos}
/-! ## repr of a truth, an int -/
theorem call_reprP : CallR X (.builtin "repr") (fun xs H Q => (∃ b : Bool, xs = [.bl b] ∧ Q (.str (if b then "True" else "False")) H) ∨ ∃ i, xs = [.int i] ∧ i.natAbs.log2 < 1920 ∧ Q (.str (toString i)) H) := by
  intro pins s σ H xs us Q I r h
  rcases h with ⟨b, rfl, q⟩ | ⟨i, rfl, hz, q⟩
  · obtain ⟨u, rfl, t⟩ := vals1 r
    obtain rfl : u = Value.bool b := t
    exact PySem.P.repr_of_bool ⟨.str _, H, I.tok _, ⟨_, rfl⟩, q⟩
  · obtain ⟨u, rfl, t, rfl⟩ := vals1 r
    exact PySem.P.repr_of_int hz ⟨.str _, H, I.tok _, ⟨_, rfl⟩, q⟩
def oRep : D → Option D
  | .bl true => some (.str "True")
  | .bl false => some (.str "False")
  | .int i => if i.natAbs.log2 < 1920 ∧ (toString i : Str).length ≤ sizeLine then some (.str (toString i)) else none
  | _ => none
theorem de_repr {p : Pos} {e : Expr} {es : List Expr} {fas : EF (List AV)} (hm : X.mg "repr" = none) (ha : DA X W (e :: es) fas) (hg : Gl X "repr" := by rfl) (he : starEach (e :: es) X.env = (false, eval e X.env) :: starEach es X.env := by rfl) (hpl : (backTo pos (starEach es X.env)).any (·.1) = false := by rfl) :
    DE X W (.Call (.Name "repr" p) (e :: es) [] pos) (eBind fas (g1 fun a => eOn a oRep)) := by
  refine de_b1 call_reprP hm rfl ha (fun d v S H Q x r h q => ?_) (fun d x h S S' w r => ?_) hg (by decide) (by decide) he hpl
  · cases d with
    | bl b =>
      obtain rfl : v = V.bl b := r
      refine .inl ⟨b, rfl, ?_⟩
      cases b with
      | true => cases h; exact q _ fun _ => ⟨rfl, by decide⟩
      | false => cases h; exact q _ fun _ => ⟨rfl, by decide⟩
    | int i =>
      obtain rfl : v = V.int i := r
      unfold oRep at h
      dsimp only at h
      split at h
      · rename_i hz
        cases h
        exact .inr ⟨i, rfl, hz.1, q _ fun _ => ⟨rfl, hz.2⟩⟩
      · cases h
    | _ => cases h
  · cases d with
    | bl b => cases b <;> (cases h; exact r)
    | int i =>
      unfold oRep at h
      dsimp only at h
      split at h
      · cases h; exact r
      · cases h
    | _ => cases h
/-! ## {} -/
theorem df_dict0 : DF X W (.Dict [] [] pos) (eRet (.o (.dK []))) := by
  refine pe_imp pe_dnewK ?_
  rintro σ H Q ⟨S, env, r, env', rel, e, q⟩
  cases e
  exact fun p hp => q S H rel.step p _ hp ⟨[], rfl, Nat.zero_le _, rfl⟩
/-! ## -e -/
def oNeg : D → EF D
  | .int i => eRet (.int (-i))
  | _ => fun _ => none
theorem de_neg {e : Expr} {f : EF D} (h : DE X W e f) : DE X W (.UnaryOp .USub e pos) (eBind f oNeg) := by
  refine pe_imp (pe_un un_neg h) ?_
  rintro σ H Q ⟨S, env, z⟩
  refine ⟨S, env, (At.bind (R := RD X.K) z).imp fun v H1 ⟨d, S1, e1, r, st, z1⟩ => ?_⟩
  cases d with
  | int i => exact ⟨i, r, z1.ret rfl⟩
  | _ => exact (z1.none rfl).elim
/-! ## in -/
def oIn (d c : D) : Option D := match oInS d c with
  | some x => some x
  | none => oInL d c
abbrev rIn2 (K : PySem.W.Frag) : R2 := fun x y H Q => (∃ (c : Nat) (z : Str), x = .str ⟨#[c]⟩ ∧ y = .str z ∧ Q (.bl (decide (c ∈ z.cps.toList))) H) ∨ rInD K x y H Q
theorem op_in2 (hu : X.A.units + 65 < cLine) : OpR X (compareOp .In) (rIn2 X.K) := OpR.or op_in_sign (op_inD hu)
theorem ok_in2 {K : PySem.W.Frag} : OpOk K (rIn2 K) oIn := OpOk.or ok_inS ok_inL
/-- not in a list -/
def oNotIn (d c : D) : Option D := match oInL d c with
  | some (.bl b) => some (.bl (!b))
  | _ => none
theorem ok_notInL {K : PySem.W.Frag} : OpOk K (rNotInD K) oNotIn := by
  intro S env σ H Q d d' v u x rel r1 r2 e q
  cases d' with
  | lst ds =>
    unfold oNotIn oInL at e
    dsimp only at e
    split at e
    · rename_i b hb
      cases e
      split at hb
      · rename_i p l hp hl
        split at hb
        · rename_i hs
          cases hb
          refine ⟨p, l, dp_one rel.sub r1 hp, dp_one rel.sub r2 ?_, hs.1, hs.2, q S H rel.step _ rfl⟩
          unfold toPy
          rw [hl]
        · cases hb
      · cases hb
    · cases e
  | _ => cases e
theorem op_mul2 : OpR X (binaryOp .Mult) (fun x y H Q => rI CMulW (fun i j => .int (i * j)) x y H Q ∨ rI CMul (fun i j => .int (i * j)) x y H Q) := OpR.or op_mulW op_mul
/-! ## short forms of the rules, for the printed derivations -/
variable {a b : Expr} {fa fb : EF AV}
theorem b_add (ha : DV X W a fa) (hb : DV X W b fb) : DE X W (.BinOp a .Add b pos) (e2 fa fb fun x y => eOn2 x y oAdd) := de_bin op_add3 ok_add ha hb
theorem b_sub (ha : DV X W a fa) (hb : DV X W b fb) : DE X W (.BinOp a .Sub b pos) (e2 fa fb fun x y => eOn2 x y oSub) := de_bin op_sub ok_sub ha hb
theorem b_mul (ha : DV X W a fa) (hb : DV X W b fb) : DE X W (.BinOp a .Mult b pos) (e2 fa fb fun x y => eOn2 x y oMul) := de_bin op_mul2 ok_mul ha hb
theorem b_fdiv (ha : DV X W a fa) (hb : DV X W b fb) : DE X W (.BinOp a .FloorDiv b pos) (e2 fa fb fun x y => eOn2 x y oFdiv) := de_bin op_fdivW ok_fdiv ha hb
theorem b_mod (ha : DV X W a fa) (hb : DV X W b fb) : DE X W (.BinOp a .Mod b pos) (e2 fa fb fun x y => eOn2 x y oMod) := de_bin op_mod ok_mod ha hb
theorem b_pow (ha : DV X W a fa) (hb : DV X W b fb) : DE X W (.BinOp a .Pow b pos) (e2 fa fb fun x y => eOn2 x y oPow) := de_bin op_pow ok_pow ha hb
/-- a comparison: its meaning, as a value and as a test -/
structure CmpR (X : Cx) (o : CmpOp) (op : D → D → Option D) : Prop where
  ex : ∃ r, OpR X (compareOp o) r ∧ OpOk X.K r op
theorem c_lt : CmpR X .Lt oLt := ⟨_, op_lt, ok_lt⟩
theorem c_le : CmpR X .LtE oLe := ⟨_, op_le, ok_le⟩
theorem c_gt : CmpR X .Gt oGt := ⟨_, op_gt, ok_gt⟩
theorem c_ge : CmpR X .GtE oGe := ⟨_, op_ge, ok_ge⟩
theorem c_is : CmpR X .Is oIs := ⟨_, op_is2, ok_is⟩
theorem c_isnot : CmpR X .IsNot oIsNot := ⟨_, op_isnot2, ok_isnot⟩
theorem c_eq {k : Nat} (r : Room k X.A) : CmpR X .Eq oEq := ⟨_, op_eqD r.units, ok_eq⟩
theorem c_ne {k : Nat} (r : Room k X.A) : CmpR X .NotEq oNe := ⟨_, op_neD r.units, ok_ne⟩
theorem c_in {k : Nat} (r : Room k X.A) : CmpR X .In oIn := ⟨_, op_in2 (by have := r.un; omega), ok_in2⟩
theorem c_notin {k : Nat} (r : Room k X.A) : CmpR X .NotIn oNotIn := ⟨_, op_notInD (by have := r.un; omega), ok_notInL⟩
theorem e_cmp {o : CmpOp} {op : D → D → Option D} (h : CmpR X o op) (ha : DV X W a fa) (hb : DV X W b fb) (hm : behindInMarks o b = false := by rfl) : DE X W (.Compare a [o] [b] pos) (e2 fa fb fun x y => eOn2 x y op) := by
  obtain ⟨r, h1, h2⟩ := h
  exact de_cmpO h1 h2 hm ha hb
theorem t_cmp {o : CmpOp} {op : D → D → Option D} (h : CmpR X o op) (ha : DV X W a fa) (hb : DV X W b fb) (hm : behindInMarks o b = false := by rfl) : DT X W (.Compare a [o] [b] pos) (eT (e2 fa fb fun x y => eOn2 x y op)) := by
  obtain ⟨r, h1, h2⟩ := h
  exact dt_cmpO h1 h2 hm ha hb
end
end Mir
namespace Mir
open PySem PySem.Spec PyProof.Rows L2
section
variable {X : Cx} {W : WX} {pos : Pos} {a b c : Expr} {fa fb fc : EF AV}
theorem e_chain {o o' : CmpOp} {op op' : D → D → Option D} (h : CmpR X o op) (h' : CmpR X o' op') (ha : DV X W a fa) (hb : DV X W b fb) (hc : DV X W c fc)
    (hm : lastMarks [o, o'] [b, c] = false := by with_unfolding_all rfl) : DE X W (.Compare a [o, o'] [b, c] pos) (eChain fa fb fc op op') := by
  obtain ⟨r, h1, h2⟩ := h
  obtain ⟨r', h1', h2'⟩ := h'
  exact de_chain h1 h2 h1' h2' ha hb hc hm
theorem t_chain {o o' : CmpOp} {op op' : D → D → Option D} (h : CmpR X o op) (h' : CmpR X o' op') (ha : DV X W a fa) (hb : DV X W b fb) (hc : DV X W c fc)
    (hm : lastMarks [o, o'] [b, c] = false := by with_unfolding_all rfl) : DT X W (.Compare a [o, o'] [b, c] pos) (eT (eChain fa fb fc op op')) := by
  obtain ⟨r, h1, h2⟩ := h
  obtain ⟨r', h1', h2'⟩ := h'
  exact dt_chain h1 h2 h1' h2' ha hb hc hm
end
end Mir

namespace Mir
open PySem PySem.Spec PyProof.Rows L2
theorem tk0 {X : Cx} : Takes X W0 := fun _ _ x => by
  obtain ⟨_, _, _, _, _, _, _, _, _, _, _, _, _, _, _, _, z⟩ := x
  exact z.elim
theorem cx_none {P : Program} {w : World} {H : Hp} {s : Shared} {e : Value} {s' : Shared} (h : L2.CX P w [] H s (fun _ _ _ => False) e s') : False := by
  obtain ⟨_, _, _, _, _, _, _, _, _, _, _, _, z⟩ := h
  exact z
theorem reps_ints {K : PySem.W.Frag} {S : Hp} : ∀ ns : List Int, Reps K S (ns.map D.int) (ns.map V.int)
  | [] => rfl
  | n :: ns => ⟨.int n, _, rfl, rfl, reps_ints ns⟩
/-- the law answers True -/
theorem law_done {K : PySem.W.Frag} {mf : MF} {ns : List Int} {H : Hp} {a : Addr} (h : ∃ as', mf [.v (.frl (ns.map .int))] = some (.ok (.d (.bl true)), as')) (hl : ns.length ≤ 63) (hS : SqL K H a (ns.map V.int)) :
    spM K 1 mf [.ref a] H (fun v _ => v = .bl true) (fun _ _ _ => False) := by
  obtain ⟨as', h⟩ := h
  have hz : 63 ≤ sizeLine := by decide
  refine ⟨H, _, _, as', rfl, fun m hm => ?_, ⟨rfl, Same.refl H, fun i d e => ?_, fun i m e => ?_, fun i j m m' a e1 e2 e3 e4 => ?_⟩, h, fun S' H' st v rv => rv⟩
  · simp at hm
  · cases i with
    | zero =>
      simp at e
      subst e
      exact ⟨.ref a, rfl, a, _, rfl, hS, by simp; omega, reps_ints ns⟩
    | succ i => simp at e
  · obtain ⟨s, e1, e2⟩ := e
    cases i with
    | zero => simp at e1; subst e1; cases e2
    | succ i => simp at e1
  · obtain ⟨s, e1, e2⟩ := e1
    cases i with
    | zero => simp at e1; subst e1; cases e2
    | succ i => simp at e1
end Mir

namespace Mir
open PySem PySem.Spec PyProof.Rows L2
/-! ## the mirrors, run by rewriting -/
section
variable {α β γ : Type}
def kB (r : Option (Res α × ME)) (g : α → EF β) : Option (Res β × ME) := match r with
  | some (.ok a, e) => g a e
  | some (.ex x, e) => some (.ex x, e)
  | none => none
@[simp] theorem eRet_k (a : α) (e : ME) : eRet a e = some (.ok a, e) := rfl
@[simp] theorem eBind_k (f : EF α) (g : α → EF β) (e : ME) : eBind f g e = kB (f e) g := rfl
@[simp] theorem kB_ok (a : α) (e : ME) (g : α → EF β) : kB (some (.ok a, e)) g = g a e := rfl
@[simp] theorem kB_ex (x : Ex) (e : ME) (g : α → EF β) : kB (some (.ex x, e)) g = some (.ex x, e) := rfl
@[simp] theorem kB_none (g : α → EF β) : kB none g = none := rfl
@[simp] theorem eD_k (f : EF D) (e : ME) : eD f e = kB (f e) (fun d => eRet (.d d)) := rfl
@[simp] theorem e2_k (f : EF α) (h : EF β) (g : α → β → EF γ) (e : ME) : e2 f h g e = kB (f e) (fun x => eBind h fun y => g x y) := rfl
def kV : Option (Option Sl) → Option D
  | some (some (.o m)) => some m.d
  | some (some (.b m)) => some m.d
  | _ => none
@[simp] theorem viewA_d (d : D) (e : ME) : viewA (.d d) e = some d := rfl
@[simp] theorem viewA_own (i : Nat) (e : ME) : viewA (.own i) e = kV e[i]? := by
  unfold viewA kV
  dsimp only
  cases e[i]? with
  | none => rfl
  | some s => cases s with
    | none => rfl
    | some s => cases s <;> rfl
@[simp] theorem kV_o (m : MO) : kV (some (some (.o m))) = some m.d := rfl
@[simp] theorem kV_b (m : MO) : kV (some (some (.b m))) = some m.d := rfl
@[simp] theorem MO_lst (xs : List D) : MO.d (.lst xs) = .lst xs := rfl
@[simp] theorem MO_dK (xs : List (Key × D)) : MO.d (.dK xs) = .dK xs := rfl
def kR (r : Option α) (e : ME) : Option (Res α × ME) := match r with
  | some a => some (.ok a, e)
  | none => none
@[simp] theorem kR_some (a : α) (e : ME) : kR (some a) e = some (.ok a, e) := rfl
@[simp] theorem kR_none (e : ME) : kR (none : Option α) e = none := rfl
def kO (v : Option D) (op : D → Option α) (e : ME) : Option (Res α × ME) := match v with
  | some d => kR (op d) e
  | none => none
@[simp] theorem eOn_k (a : AV) (op : D → Option α) (e : ME) : eOn a op e = kO (viewA a e) op e := by
  unfold eOn kO
  cases viewA a e with
  | none => rfl
  | some d => dsimp only; cases op d <;> rfl
@[simp] theorem kO_some (d : D) (op : D → Option α) (e : ME) : kO (some d) op e = kR (op d) e := rfl
def kO2 (v u : Option D) (op : D → D → Option α) (e : ME) : Option (Res α × ME) := match v, u with
  | some d, some d' => kR (op d d') e
  | _, _ => none
@[simp] theorem eOn2_k (a b : AV) (op : D → D → Option α) (e : ME) : eOn2 a b op e = kO2 (viewA a e) (viewA b e) op e := by
  unfold eOn2 kO2
  cases viewA a e with
  | none => rfl
  | some d => cases viewA b e with
    | none => rfl
    | some d' => dsimp only; cases op d d' <;> rfl
@[simp] theorem kO2_some (d d' : D) (op : D → D → Option α) (e : ME) : kO2 (some d) (some d') op e = kR (op d d') e := rfl
@[simp] theorem g1_k (g : AV → EF α) (a : AV) : g1 g [a] = g a := rfl
@[simp] theorem g2_k (g : AV → AV → EF α) (a b : AV) : g2 g [a, b] = g a b := rfl
@[simp] theorem asB_k (b : Bool) : asB (.bl b) = eRet b := rfl
@[simp] theorem eT_k (f : EF D) (e : ME) : eT f e = kB (f e) asB := rfl
@[simp] theorem eDF_k (f : EF D) (e : ME) : eDF f e = kB (f e) (fun d => eRet (.d d)) := rfl
@[simp] theorem eCons_k (f : EF AV) (g : EF (List AV)) (e : ME) : eCons f g e = kB (f e) (fun x => eBind g fun y => eRet (x :: y)) := rfl
def kI (r : Option (Res Bool × ME)) (f g : EF α) : Option (Res α × ME) := match r with
  | some (.ok b, e) => if b = true then f e else g e
  | some (.ex x, e) => some (.ex x, e)
  | none => none
@[simp] theorem eIf_k (t : EF Bool) (f g : EF α) (e : ME) : eIf t f g e = kI (t e) f g := by
  unfold eIf kI eBind
  cases t e with
  | none => rfl
  | some p => obtain ⟨r, e'⟩ := p; cases r with
    | ex x => rfl
    | ok b => cases b <;> rfl
@[simp] theorem kI_ok (b : Bool) (e : ME) (f g : EF α) : kI (some (.ok b, e)) f g = if b = true then f e else g e := rfl
@[simp] theorem eAnd_k (f g : EF Bool) (e : ME) : eAnd f g e = kI (f e) g (eRet false) := by
  unfold eAnd kI eBind
  cases f e with
  | none => rfl
  | some p => obtain ⟨r, e'⟩ := p; cases r with
    | ex x => rfl
    | ok b => cases b <;> rfl
@[simp] theorem eOr_k (f g : EF Bool) (e : ME) : eOr f g e = kI (f e) (eRet true) g := by
  unfold eOr kI eBind
  cases f e with
  | none => rfl
  | some p => obtain ⟨r, e'⟩ := p; cases r with
    | ex x => rfl
    | ok b => cases b <;> rfl
@[simp] theorem eNot_k (f : EF Bool) (e : ME) : eNot f e = kB (f e) (fun b => eRet (!b)) := rfl
def kA : D → EF D → EF D
  | .bl true, g => g
  | .bl false, _ => eRet (.bl false)
  | _, _ => fun _ => none
def kOr : D → EF D → EF D
  | .bl true, _ => eRet (.bl true)
  | .bl false, g => g
  | _, _ => fun _ => none
@[simp] theorem eAndV_k (f g : EF D) (e : ME) : eAndV f g e = kB (f e) (fun d => kA d g) := by
  unfold eAndV kB eBind
  cases f e with
  | none => rfl
  | some p => obtain ⟨r, e'⟩ := p; cases r with
    | ex x => rfl
    | ok b => cases b <;> first | rfl | (rename_i b; cases b <;> rfl)
@[simp] theorem eOrV_k (f g : EF D) (e : ME) : eOrV f g e = kB (f e) (fun d => kOr d g) := by
  unfold eOrV kB eBind
  cases f e with
  | none => rfl
  | some p => obtain ⟨r, e'⟩ := p; cases r with
    | ex x => rfl
    | ok b => cases b <;> first | rfl | (rename_i b; cases b <;> rfl)
@[simp] theorem kA_bl (b : Bool) (g : EF D) (e : ME) : kA (.bl b) g e = if b = true then g e else some (.ok (.bl false), e) := by cases b <;> rfl
@[simp] theorem kOr_bl (b : Bool) (g : EF D) (e : ME) : kOr (.bl b) g e = if b = true then some (.ok (.bl true), e) else g e := by cases b <;> rfl
def kNot : D → EF D
  | .bl b => eRet (.bl (!b))
  | _ => fun _ => none
@[simp] theorem eNotV_k (f : EF D) (e : ME) : eNotV f e = kB (f e) kNot := by
  unfold eNotV kB eBind
  cases f e with
  | none => rfl
  | some p => obtain ⟨r, e'⟩ := p; cases r with
    | ex x => rfl
    | ok b => cases b <;> rfl
@[simp] theorem kNot_bl (b : Bool) : kNot (.bl b) = eRet (.bl (!b)) := rfl
/-! names -/
def kN (s : Option (Option Sl)) (i : Nat) (e : ME) : Option (Res AV × ME) := match s with
  | some (some (.v d)) => some (.ok (.d d), e)
  | some (some (.o _)) => some (.ok (.own i), e)
  | some (some (.b _)) => some (.ok (.own i), e)
  | _ => none
@[simp] theorem eName_k (i : Nat) (e : ME) : eName i e = kN e[i]? i e := rfl
@[simp] theorem kN_v (d : D) (i : Nat) (e : ME) : kN (some (some (.v d))) i e = some (.ok (.d d), e) := rfl
@[simp] theorem kN_o (m : MO) (i : Nat) (e : ME) : kN (some (some (.o m))) i e = some (.ok (.own i), e) := rfl
@[simp] theorem kN_b (m : MO) (i : Nat) (e : ME) : kN (some (some (.b m))) i e = some (.ok (.own i), e) := rfl
def kF (s : Option (Option Sl)) (i : Nat) (e : ME) : Option (Res D × ME) := match s with
  | some (some (.v d)) => some (.ok d, e)
  | some (some (.o m)) => some (.ok m.d, e.set i (some (.v m.d)))
  | _ => none
@[simp] theorem eFrz_k (i : Nat) (e : ME) : eFrz i e = kF e[i]? i e := rfl
@[simp] theorem kF_v (d : D) (i : Nat) (e : ME) : kF (some (some (.v d))) i e = some (.ok d, e) := rfl
@[simp] theorem kF_o (m : MO) (i : Nat) (e : ME) : kF (some (some (.o m))) i e = some (.ok m.d, e.set i (some (.v m.d))) := rfl
def kVar (s : Option (Option Sl)) (e : ME) : Option (Res D × ME) := match s with
  | some (some (.v d)) => some (.ok d, e)
  | _ => none
@[simp] theorem eVar_k (i : Nat) (e : ME) : eVar i e = kVar e[i]? e := rfl
@[simp] theorem kVar_v (d : D) (e : ME) : kVar (some (some (.v d))) e = some (.ok d, e) := rfl
def kOut (s : Option (Option Sl)) (i : Nat) (e : ME) : Option (Res FR × ME) := match s with
  | some (some (.v d)) => some (.ok (.d d), e)
  | some (some (.o m)) => some (.ok (.o m), e.set i none)
  | _ => none
@[simp] theorem eOut_k (i : Nat) (e : ME) : eOut i e = kOut e[i]? i e := rfl
@[simp] theorem kOut_v (d : D) (i : Nat) (e : ME) : kOut (some (some (.v d))) i e = some (.ok (.d d), e) := rfl
@[simp] theorem kOut_o (m : MO) (i : Nat) (e : ME) : kOut (some (some (.o m))) i e = some (.ok (.o m), e.set i none) := rfl
/-! lists, tuples -/
@[simp] theorem ds_nil : ds [] = some [] := rfl
@[simp] theorem ds_d (d : D) (r : List AV) : Mir.ds (.d d :: r) = (Mir.ds r).map (d :: ·) := by
  rw [Mir.ds]
  cases Mir.ds r <;> rfl
def kL (o : Option (List D)) (e : ME) : Option (Res FR × ME) := match o with
  | some l => if l.length ≤ sizeLine then some (.ok (.o (.lst l)), e) else none
  | none => none
def kT (o : Option (List D)) (e : ME) : Option (Res D × ME) := match o with
  | some l => if l.length ≤ sizeLine then some (.ok (.tup l), e) else none
  | none => none
@[simp] theorem eLst_k (f : EF (List AV)) (e : ME) : eLst f e = kB (f e) (fun as e => kL (Mir.ds as) e) := by
  unfold eLst kB eBind
  cases f e with
  | none => rfl
  | some p => obtain ⟨r, e'⟩ := p; cases r with
    | ex x => rfl
    | ok as =>
      dsimp only
      unfold kL
      cases Mir.ds as with
      | none => rfl
      | some l => dsimp only; split <;> rfl
@[simp] theorem eTup_k (f : EF (List AV)) (e : ME) : eTup f e = kB (f e) (fun as e => kT (Mir.ds as) e) := by
  unfold eTup kB eBind
  cases f e with
  | none => rfl
  | some p => obtain ⟨r, e'⟩ := p; cases r with
    | ex x => rfl
    | ok as =>
      dsimp only
      unfold kT
      cases Mir.ds as with
      | none => rfl
      | some l => dsimp only; split <;> rfl
theorem small_le {n : Nat} (h : n ≤ 100000) : n ≤ sizeLine := Nat.le_trans h (by decide)
theorem kL_some (l : List D) (e : ME) (h : l.length ≤ 100000) : kL (some l) e = some (.ok (.o (.lst l)), e) := by
  show (if _ then _ else _) = _
  rw [if_pos (small_le h)]
theorem kT_some (l : List D) (e : ME) (h : l.length ≤ 100000) : kT (some l) e = some (.ok (.tup l), e) := by
  show (if _ then _ else _) = _
  rw [if_pos (small_le h)]
def kFz : FR → EF D
  | .d d => eRet d
  | .o m => eRet m.d
@[simp] theorem eFz_k (f : EF FR) (e : ME) : eFz f e = kB (f e) kFz := by
  unfold eFz kB eBind
  cases f e with
  | none => rfl
  | some p => obtain ⟨r, e'⟩ := p; cases r with
    | ex x => rfl
    | ok as => cases as <;> rfl
@[simp] theorem kFz_d (d : D) : kFz (.d d) = eRet d := rfl
@[simp] theorem kFz_o (m : MO) : kFz (.o m) = eRet m.d := rfl
/-! calls -/
@[simp] theorem ixs_nil : ixs [] = [] := rfl
@[simp] theorem ixs_d (d : D) (r : List AV) : ixs (.d d :: r) = ixs r := rfl
@[simp] theorem ixs_o (i : Nat) (r : List AV) : ixs (.own i :: r) = i :: ixs r := rfl
def kM (s : Option (Option Sl)) (o : Option (List Sl)) : Option (List Sl) := match s with
  | some (some (.o m)) => o.map (.b m :: ·)
  | some (some (.b m)) => o.map (.b m :: ·)
  | _ => none
@[simp] theorem lend_nil (e : ME) : lend e [] = some [] := rfl
@[simp] theorem lend_d (e : ME) (d : D) (r : List AV) : lend e (.d d :: r) = (lend e r).map (.v d :: ·) := by
  rw [lend]
  cases lend e r <;> rfl
@[simp] theorem lend_o (e : ME) (i : Nat) (r : List AV) : lend e (.own i :: r) = kM e[i]? (lend e r) := by
  rw [lend]
  unfold kM
  cases e[i]? with
  | none => rfl
  | some s => cases s with
    | none => rfl
    | some s => cases s with
      | v d => rfl
      | o m => dsimp [Sl.mo]; cases lend e r <;> rfl
      | b m => dsimp [Sl.mo]; cases lend e r <;> rfl
@[simp] theorem kM_o (m : MO) (o : Option (List Sl)) : kM (some (some (.o m))) o = o.map (.b m :: ·) := rfl
@[simp] theorem kM_b (m : MO) (o : Option (List Sl)) : kM (some (some (.b m))) o = o.map (.b m :: ·) := rfl
def kPut (s : Option (Option Sl)) (m : MO) (i : Nat) (e : ME) : ME := match s with
  | some (some s) => e.set i (some (s.put m))
  | _ => e
@[simp] theorem putB_nil (e : ME) (q : List Sl) : putB e [] q = e := by cases q <;> rfl
@[simp] theorem putB_d (e : ME) (d : D) (r : List AV) (s : Sl) (q : List Sl) : putB e (.d d :: r) (s :: q) = putB e r q := rfl
@[simp] theorem putB_o (e : ME) (i : Nat) (r : List AV) (m : MO) (q : List Sl) : putB e (.own i :: r) (.b m :: q) = kPut e[i]? m i (putB e r q) := by
  rw [putB]
  unfold kPut
  cases e[i]? with
  | none => rfl
  | some s => cases s <;> rfl
@[simp] theorem kPut_s (s : Sl) (m : MO) (i : Nat) (e : ME) : kPut (some (some s)) m i e = e.set i (some (s.put m)) := rfl
@[simp] theorem put_v (m : MO) (d : D) : Sl.put m (.v d) = .v d := rfl
@[simp] theorem put_o (m m' : MO) : Sl.put m (.o m') = .o m := rfl
@[simp] theorem put_b (m m' : MO) : Sl.put m (.b m') = .b m := rfl
def kC (o : Option (Res FR × List Sl)) (as : List AV) (e : ME) : Option (Res FR × ME) := match o with
  | some (.ok r, q) => some (.ok r, putB e as q)
  | some (.ex x, q) => some (.ex x, putB e as q)
  | none => none
def kCall (mf : MF) (as : List AV) (e : ME) : Option (Res FR × ME) := if (ixs as).Nodup then kC ((lend e as).bind mf) as e else none
@[simp] theorem eCall_k (mf : MF) (f : EF (List AV)) (e : ME) : eCall mf f e = kB (f e) (kCall mf) := by
  unfold eCall kB eBind
  cases f e with
  | none => rfl
  | some p => obtain ⟨r, e'⟩ := p; cases r with
    | ex x => rfl
    | ok as =>
      dsimp only
      unfold kCall
      split
      · unfold kC
        cases lend e' as with
        | none => rfl
        | some sl =>
          dsimp only [Option.bind]
          first | done | (rcases mf sl with _ | ⟨r | x, q⟩ <;> rfl)
      · rfl
@[simp] theorem kCall_k (mf : MF) (as : List AV) (e : ME) : kCall mf as e = if (ixs as).Nodup then kC ((lend e as).bind mf) as e else none := rfl
@[simp] theorem kC_ok (r : FR) (q : List Sl) (as : List AV) (e : ME) : kC (some (.ok r, q)) as e = some (.ok r, putB e as q) := rfl
@[simp] theorem kC_ex (x : Ex) (q : List Sl) (as : List AV) (e : ME) : kC (some (.ex x, q)) as e = some (.ex x, putB e as q) := rfl
/-! statements -/
def kS (r : Option (Out × ME)) (g : SF) : Option (Out × ME) := match r with
  | some (.nx, e) => g e
  | r => r
@[simp] theorem sSeq_k (f g : SF) (e : ME) : sSeq f g e = kS (f e) g := rfl
@[simp] theorem kS_nx (e : ME) (g : SF) : kS (some (.nx, e)) g = g e := rfl
@[simp] theorem kS_ret (r : FR) (e : ME) (g : SF) : kS (some (.ret r, e)) g = some (.ret r, e) := rfl
@[simp] theorem kS_brk (e : ME) (g : SF) : kS (some (.brk, e)) g = some (.brk, e) := rfl
@[simp] theorem kS_cnt (e : ME) (g : SF) : kS (some (.cnt, e)) g = some (.cnt, e) := rfl
@[simp] theorem kS_ex (x : Ex) (e : ME) (g : SF) : kS (some (.ex x, e)) g = some (.ex x, e) := rfl
@[simp] theorem kS_ite (c : Prop) [Decidable c] (a b : Option (Out × ME)) (g : SF) : kS (if c then a else b) g = if c then kS a g else kS b g := by split <;> rfl
@[simp] theorem sNx_k (e : ME) : sNx e = some (.nx, e) := rfl
@[simp] theorem sCnt_k (e : ME) : sCnt e = some (.cnt, e) := rfl
@[simp] theorem sBrk_k (e : ME) : sBrk e = some (.brk, e) := rfl
@[simp] theorem sRetN_k (e : ME) : sRetN e = some (.ret (.d .non), e) := rfl
def kSB (r : Option (Res α × ME)) (g : α → SF) : Option (Out × ME) := match r with
  | some (.ok a, e) => g a e
  | some (.ex x, e) => some (.ex x, e)
  | none => none
@[simp] theorem sBind_k (f : EF α) (g : α → SF) (e : ME) : sBind f g e = kSB (f e) g := rfl
@[simp] theorem kSB_ok (a : α) (e : ME) (g : α → SF) : kSB (some (.ok a, e)) g = g a e := rfl
@[simp] theorem kSB_ex (x : Ex) (e : ME) (g : α → SF) : kSB (some (.ex x, e)) g = some (.ex x, e) := rfl
def kIsB : Option (Option Sl) → Bool
  | some (some (.b _)) => true
  | _ => false
@[simp] theorem isB_k (e : ME) (i : Nat) : isB e i = kIsB e[i]? := by
  unfold isB kIsB
  cases e[i]? with
  | none => rfl
  | some s => cases s with
    | none => rfl
    | some s => cases s <;> rfl
@[simp] theorem kIsB_v (d : D) : kIsB (some (some (.v d))) = false := rfl
@[simp] theorem kIsB_o (d : MO) : kIsB (some (some (.o d))) = false := rfl
@[simp] theorem kIsB_n : kIsB (some none) = false := rfl
@[simp] theorem putV_k (i : Nat) (d : D) (e : ME) : putV i d e = if isB e i = true then none else some (.nx, e.set i (some (.v d))) := rfl
@[simp] theorem sSet_k (i : Nat) (f : EF D) (e : ME) : sSet i f e = kSB (f e) (putV i) := rfl
@[simp] theorem putF_d (i : Nat) (d : D) (e : ME) : putF i (.d d) e = putV i d e := rfl
@[simp] theorem putF_o (i : Nat) (m : MO) (e : ME) : putF i (.o m) e = if isB e i = true then none else some (.nx, e.set i (some (.o m))) := rfl
@[simp] theorem sSetF_k (i : Nat) (f : EF FR) (e : ME) : sSetF i f e = kSB (f e) (putF i) := rfl
@[simp] theorem sRet_k (f : EF FR) (e : ME) : sRet f e = kSB (f e) (fun r e => some (.ret r, e)) := rfl
@[simp] theorem sDo_k (f : EF D) (e : ME) : sDo f e = kSB (f e) (fun _ => sNx) := rfl
def kSI (r : Option (Res Bool × ME)) (f g : SF) : Option (Out × ME) := match r with
  | some (.ok b, e) => if b = true then f e else g e
  | some (.ex x, e) => some (.ex x, e)
  | none => none
@[simp] theorem sIf_k (t : EF Bool) (f g : SF) (e : ME) : sIf t f g e = kSI (t e) f g := by
  unfold sIf kSI sBind
  cases t e with
  | none => rfl
  | some p => obtain ⟨r, e'⟩ := p; cases r with
    | ex x => rfl
    | ok b => cases b <;> rfl
@[simp] theorem kSI_ok (b : Bool) (e : ME) (f g : SF) : kSI (some (.ok b, e)) f g = if b = true then f e else g e := rfl
@[simp] theorem kSI_ex (x : Ex) (e : ME) (f g : SF) : kSI (some (.ex x, e)) f g = some (.ex x, e) := rfl
def kLst : Option (Option Sl) → Option (Sl × List D)
  | some (some (.o (.lst ds))) => some (.o (.lst ds), ds)
  | some (some (.b (.lst ds))) => some (.b (.lst ds), ds)
  | _ => none
@[simp] theorem lstAt_k (e : ME) (i : Nat) : lstAt e i = kLst e[i]? := by
  unfold lstAt kLst
  cases e[i]? with
  | none => rfl
  | some s => cases s with
    | none => rfl
    | some s => cases s with
      | v d => rfl
      | o m => cases m <;> rfl
      | b m => cases m <;> rfl
@[simp] theorem kLst_o (ds : List D) : kLst (some (some (.o (.lst ds)))) = some (.o (.lst ds), ds) := rfl
@[simp] theorem kLst_b (ds : List D) : kLst (some (some (.b (.lst ds)))) = some (.b (.lst ds), ds) := rfl
def kPI2 (i : Nat) (d : D) (k : D) (e : ME) : Option (Out × ME) := match k with
  | .int k => match kLst e[i]? with
    | some (s, ds) => match ixN ds.length k with
      | some j => some (.nx, e.set i (some (s.put (.lst (ds.set j d)))))
      | none => none
    | none => none
  | _ => none
def kPI (i : Nat) (fk : EF D) (d : D) (e : ME) : Option (Out × ME) := match kLst e[i]? with
  | some _ => kSB (fk e) (kPI2 i d)
  | none => none
@[simp] theorem sPutIx_k (i : Nat) (fe fk : EF D) (e : ME) : sPutIx i fe fk e = kSB (fe e) (kPI i fk) := by
  unfold sPutIx sBind kSB
  cases fe e with
  | none => rfl
  | some p => obtain ⟨r, e'⟩ := p; cases r with
    | ex x => rfl
    | ok d =>
      dsimp only
      unfold kPI
      rw [lstAt_k]
      cases kLst e'[i]? with
      | none => rfl
      | some q =>
        dsimp only
        unfold kSB
        cases fk e' with
        | none => rfl
        | some p => obtain ⟨r, e2⟩ := p; cases r with
          | ex x => rfl
          | ok k =>
            dsimp only
            unfold kPI2
            cases k <;> first | rfl | (dsimp only; rw [lstAt_k]; first | done | (cases kLst e2[i]? <;> rfl))
def kM2 (i : Nat) (op : List D → List AV → ME → Option (D × List D)) (as : List AV) (e : ME) : Option (Res D × ME) := match kLst e[i]? with
  | some (s, ds) => match op ds as e with
    | some (x, ds') => some (.ok x, e.set i (some (s.put (.lst ds'))))
    | none => none
  | none => none
@[simp] theorem eMut_k (i : Nat) (f : EF (List AV)) (op : List D → List AV → ME → Option (D × List D)) (e : ME) : eMut i f op e = match kLst e[i]? with
    | some _ => kB (f e) (kM2 i op)
    | none => none := by
  unfold eMut
  rw [lstAt_k]
  cases kLst e[i]? with
  | none => rfl
  | some q =>
    dsimp only
    rw [eBind_k]
    congr 1
    funext as e1
    unfold kM2
    rw [lstAt_k]
    first | done | (cases kLst e1[i]? <;> rfl)
/-! loops -/
@[simp] theorem sFor_k (fi : EF (List D)) (g : TF) (b : SF) (e : ME) : sFor fi g b e = kSB (fi e) (sLoop g b) := rfl
@[simp] theorem sLoop_nil (g : TF) (b : SF) (e : ME) : sLoop g b [] e = some (.nx, e) := rfl
/-- a loop that goes on to its end -/
theorem sLoop_all {g : TF} {b : SF} (P : ME → Prop) : ∀ (ds : List D), (∀ d ∈ ds, ∀ e, P e → ∃ e1 o e2, g d e = some e1 ∧ b e1 = some (o, e2) ∧ (o = .nx ∨ o = .cnt) ∧ P e2) → ∀ e, P e → ∃ e', sLoop g b ds e = some (.nx, e') ∧ P e'
  | [], _, e, h => ⟨e, rfl, h⟩
  | d :: ds, hb, e, h => by
    obtain ⟨e1, o, e2, h1, h2, ho, h3⟩ := hb d List.mem_cons_self e h
    obtain ⟨e', q, p⟩ := sLoop_all P ds (fun d hd => hb d (List.mem_cons_of_mem _ hd)) e2 h3
    refine ⟨e', ?_, p⟩
    unfold sLoop
    rw [h1]
    dsimp only
    rw [h2]
    rcases ho with rfl | rfl <;> exact q
@[simp] theorem gSl_k (i : Nat) (d : D) (e : ME) : gSl i d e = if isB e i = true then none else some (e.set i (some (.v d))) := rfl
@[simp] theorem eOf_k (f : EF D) (e : ME) : eOf f e = kB (f e) oIter := rfl
@[simp] theorem oIter_tup (ds : List D) : oIter (.tup ds) = eRet ds := rfl
@[simp] theorem oIter_lst (ds : List D) : oIter (.lst ds) = eRet ds := rfl
@[simp] theorem oIter_frl (ds : List D) : oIter (.frl ds) = eRet ds := rfl
@[simp] theorem oIter_str (x : Str) : oIter (.str x) = eRet (signs x) := rfl
def kSl (o : Option (List D × ME)) : Option (Res FR × ME) := match o with
  | some (acc, e) => some (.ok (.o (.lst acc)), e)
  | none => none
@[simp] theorem eLc_k (vs : List Nat) (fi : EF (List D)) (g : TF) (t : EF Bool) (el : EF D) (e : ME) : eLc vs fi g t el e = kB (fi e) (fun ds e => if offAt vs e = true ∧ ds.length ≤ sizeLine then kSl (cLoop vs g t el ds [] e) else none) := by
  unfold eLc kB eBind
  cases fi e with
  | none => rfl
  | some p => obtain ⟨r, e'⟩ := p; cases r with
    | ex x => rfl
    | ok ds =>
      dsimp only
      split
      · unfold kSl
        cases cLoop vs g t el ds [] e' with
        | none => rfl
        | some q => rfl
      · rfl
@[simp] theorem kSl_some (acc : List D) (e : ME) : kSl (some (acc, e)) = some (.ok (.o (.lst acc)), e) := rfl
/-- a comprehension without a test whose element leaves P standing -/
theorem cLoop_all {vs : List Nat} {g : TF} {el : EF D} (P : ME → Prop) (Q : D → D → Prop) : ∀ (ds acc : List D), (∀ d ∈ ds, ∀ e, P e → ∃ e1 x e2, g d e = some e1 ∧ el e1 = some (.ok x, e2) ∧ P (wipeE e2 vs) ∧ Q d x) → ∀ e, P e →
    ∃ xs e', cLoop vs g (eRet true) el ds acc e = some (acc ++ xs, e') ∧ P e' ∧ xs.length = ds.length ∧ ∀ x ∈ xs, ∃ d ∈ ds, Q d x
  | [], acc, _, e, h => ⟨[], e, by simp [cLoop], h, rfl, fun x hx => by cases hx⟩
  | d :: ds, acc, hb, e, h => by
    obtain ⟨e1, x, e2, h1, h2, h3, hq⟩ := hb d List.mem_cons_self e h
    obtain ⟨xs, e', q, p, l, hx⟩ := cLoop_all P Q ds (acc ++ [x]) (fun d hd => hb d (List.mem_cons_of_mem _ hd)) _ h3
    refine ⟨x :: xs, e', ?_, p, by simp [l], fun y hy => ?_⟩
    · unfold cLoop
      rw [h1]
      dsimp only [eRet]
      rw [h2]
      dsimp only
      rw [q]
      simp
    · rcases List.mem_cons.mp hy with rfl | hy
      · exact ⟨d, List.mem_cons_self, hq⟩
      · obtain ⟨d', h1, h2⟩ := hx y hy
        exact ⟨d', List.mem_cons_of_mem _ h1, h2⟩
/-! slices, chains, texts -/
def kP : D → EF (Option Int)
  | .int i => eRet (some i)
  | _ => fun _ => none
@[simp] theorem ePart_none (e : ME) : ePart none e = some (.ok none, e) := rfl
@[simp] theorem ePart_some (f : EF D) (e : ME) : ePart (some f) e = kB (f e) kP := by
  show eBind f _ e = _
  rw [eBind_k]
  first | rfl | (congr 1; funext d; cases d <;> rfl)
@[simp] theorem kP_int (i : Int) : kP (.int i) = eRet (some i) := rfl
@[simp] theorem eSl_k (fa : EF AV) (fl fh : EF (Option Int)) (e : ME) : eSl fa fl fh e = kB (fa e) (fun a => eBind fl fun l => eBind fh fun h => eOn a (oSl l h)) := rfl
@[simp] theorem oSl_lst (l h : Option Int) (ds : List D) : oSl l h (.lst ds) = some (.lst (cutD ds l h)) := rfl
@[simp] theorem oSl_frl (l h : Option Int) (ds : List D) : oSl l h (.frl ds) = some (.lst (cutD ds l h)) := rfl
@[simp] theorem oSl_tup (l h : Option Int) (ds : List D) : oSl l h (.tup ds) = some (.tup (cutD ds l h)) := rfl
@[simp] theorem oSl_str (l h : Option Int) (z : Str) : oSl l h (.str z) = some (.str (cutS z l h)) := rfl
def kCh (y : AV) (fc : EF AV) (op' : D → D → Option D) : D → EF D
  | .bl true => eBind fc fun z => eOn2 y z op'
  | .bl false => eRet (.bl false)
  | _ => fun _ => none
@[simp] theorem eChain_k (fa fb fc : EF AV) (op op' : D → D → Option D) (e : ME) : eChain fa fb fc op op' e = kB (fa e) (fun x => eBind fb fun y => eBind (eOn2 x y op) (kCh y fc op')) := rfl
@[simp] theorem kCh_bl (y : AV) (fc : EF AV) (op' : D → D → Option D) (b : Bool) (e : ME) : kCh y fc op' (.bl b) e = if b = true then kB (fc e) (fun z => eOn2 y z op') else some (.ok (.bl false), e) := by cases b <;> rfl
def kJ (fa : EF AV) : D → EF D
  | .str z => eBind fa fun a => eOn2 (.d (.str z)) a oJoin
  | _ => fun _ => none
@[simp] theorem eJoin_k (fo : EF D) (fa : EF AV) (e : ME) : eJoin fo fa e = kB (fo e) (kJ fa) := by
  unfold eJoin
  rw [eBind_k]
  first | rfl | (congr 1; funext o e1; unfold kJ; cases o <;> rfl)
@[simp] theorem kJ_str (fa : EF AV) (z : Str) (e : ME) : kJ fa (.str z) e = kB (fa e) (fun a => eOn2 (.d (.str z)) a oJoin) := rfl
@[simp] theorem eBindNeg (f : EF D) (i : Int) : oNeg (.int i) = eRet (.int (-i)) := rfl
/-! operators at ints, truths, texts -/
@[simp] theorem oLt_i (i j : Int) : oLt (.int i) (.int j) = some (.bl (decide (i < j))) := rfl
@[simp] theorem oLe_i (i j : Int) : oLe (.int i) (.int j) = some (.bl (decide (i ≤ j))) := rfl
@[simp] theorem oGt_i (i j : Int) : oGt (.int i) (.int j) = some (.bl (decide (j < i))) := rfl
@[simp] theorem oGe_i (i j : Int) : oGe (.int i) (.int j) = some (.bl (decide (j ≤ i))) := rfl
@[simp] theorem oSub_i (i j : Int) : oSub (.int i) (.int j) = some (.int (i - j)) := rfl
@[simp] theorem oAdd_i (i j : Int) : oAdd (.int i) (.int j) = some (.int (i + j)) := rfl
theorem oAdd_s (x y : Str) : oAdd (.str x) (.str y) = if x.length + y.length ≤ sizeLine then some (.str (x ++ y)) else none := rfl
theorem oAdd_l (x y : List D) : oAdd (.lst x) (.lst y) = if x.length + y.length ≤ sizeLine then some (.lst (x ++ y)) else none := rfl
theorem oMod_i (i j : Int) (h : 0 < j) : oMod (.int i) (.int j) = some (.int (i % j)) := if_pos h
theorem oFdiv_i (i j : Int) (h : 0 < j) (h' : j.natAbs.log2 < 9000) : oFdiv (.int i) (.int j) = some (.int (i / j)) := if_pos ⟨h, h'⟩
theorem oMul_r (i j : Int) (h : -(2 ^ 64) < j) (h' : j < 2 ^ 64) : oMul (.int i) (.int j) = some (.int (i * j)) := by
  show (if _ then _ else _) = _
  split
  · rfl
  · rw [if_pos (.inr ⟨h, h'⟩)]
theorem oMul_l (i j : Int) (h : -(2 ^ 64) < i) (h' : i < 2 ^ 64) : oMul (.int i) (.int j) = some (.int (i * j)) := by
  show (if _ then _ else _) = _
  split
  · rfl
  · rw [if_pos (.inl ⟨h, h'⟩)]
@[simp] theorem oInt_i (i : Int) : oInt (.int i) = some (.int i) := rfl
@[simp] theorem oInt_b (b : Bool) : oInt (.bl b) = some (.int (if b then 1 else 0)) := rfl
@[simp] theorem oMin_i (i j : Int) : oMin (.int i) (.int j) = some (.int (if j < i then j else i)) := rfl
@[simp] theorem oMax_i (i j : Int) : oMax (.int i) (.int j) = some (.int (if j > i then j else i)) := rfl
@[simp] theorem oAbs_i (i : Int) : oAbs (.int i) = some (.int (if i < 0 then -i else i)) := rfl
@[simp] theorem oLen_s (z : Str) : oLen (.str z) = some (.int z.length) := rfl
@[simp] theorem oLen_l (z : List D) : oLen (.lst z) = some (.int z.length) := rfl
@[simp] theorem oLen_f (z : List D) : oLen (.frl z) = some (.int z.length) := rfl
@[simp] theorem oLen_t (z : List D) : oLen (.tup z) = some (.int z.length) := rfl
@[simp] theorem oIx_l (z : List D) (i : Int) : oIx (.lst z) (.int i) = atI z i := rfl
@[simp] theorem oIx_f (z : List D) (i : Int) : oIx (.frl z) (.int i) = atI z i := rfl
@[simp] theorem oIx_t (z : List D) (i : Int) : oIx (.tup z) (.int i) = atI z i := rfl
@[simp] theorem oIsNot_b (a b : Bool) : oIsNot (.bl a) (.bl b) = some (.bl (!decide (a = b))) := rfl
@[simp] theorem oIs_b (a b : Bool) : oIs (.bl a) (.bl b) = some (.bl (decide (a = b))) := rfl
@[simp] theorem oIs_n (d : D) : oIs d .non = some (.bl (isNone d)) := by cases d <;> rfl
@[simp] theorem oIsNot_n (d : D) : oIsNot d .non = some (.bl (!isNone d)) := by cases d <;> rfl
@[simp] theorem oSum_i (ns : List Int) : oSum (.lst (ns.map .int)) = some (.int ns.sum) := by
  have : dInts (ns.map D.int) = some ns := by
    induction ns with
    | nil => rfl
    | cons n ns ih => simp [dInts, ih]
  show (match dInts (ns.map D.int) with | some bs => some (D.int bs.sum) | none => none) = _
  rw [this]
@[simp] theorem mDef_k (n k : Nat) (g : SF) (as : List Sl) : mDef n k g as = if as.length = n then match g (as.map some ++ List.replicate k none) with
    | some (.ret r, e) => some (.ok r, backs as e)
    | some (.nx, e) => some (.ok (.d .non), backs as e)
    | some (.ex x, e) => some (.ex x, backs as e)
    | _ => none
  else none := rfl
end
end Mir

namespace Mir
open PySem PySem.Spec PyProof.Rows L2
theorem cLoop_map {vs : List Nat} {g : TF} {el : EF D} (P : ME → Prop) (f : D → D) : ∀ (ds acc : List D), (∀ d ∈ ds, ∀ e, P e → ∃ e1 e2, g d e = some e1 ∧ el e1 = some (.ok (f d), e2) ∧ P (wipeE e2 vs)) → ∀ e, P e →
    ∃ e', cLoop vs g (eRet true) el ds acc e = some (acc ++ ds.map f, e') ∧ P e'
  | [], acc, _, e, h => ⟨e, by simp [cLoop], h⟩
  | d :: ds, acc, hb, e, h => by
    obtain ⟨e1, e2, h1, h2, h3⟩ := hb d List.mem_cons_self e h
    obtain ⟨e', q, p⟩ := cLoop_map P f ds (acc ++ [f d]) (fun d hd => hb d (List.mem_cons_of_mem _ hd)) _ h3
    refine ⟨e', ?_, p⟩
    unfold cLoop
    rw [h1]
    dsimp only [eRet]
    rw [h2]
    dsimp only
    rw [q]
    simp

def kLoop (r : Option (Out × ME)) (f : ME → Option (Out × ME)) : Option (Out × ME) := match r with
  | some (.nx, e) => f e
  | some (.cnt, e) => f e
  | some (.brk, e) => some (.nx, e)
  | r => r
def kG {α : Type} (o : Option ME) (f : ME → Option α) : Option α := match o with
  | some e => f e
  | none => none
@[simp] theorem sLoop_cons (g : TF) (b : SF) (d : D) (ds : List D) (e : ME) : sLoop g b (d :: ds) e = kG (g d e) (fun e1 => kLoop (b e1) (sLoop g b ds)) := rfl
@[simp] theorem kG_some {α : Type} (e : ME) (f : ME → Option α) : kG (some e) f = f e := rfl
@[simp] theorem kLoop_nx (e : ME) (f : ME → Option (Out × ME)) : kLoop (some (.nx, e)) f = f e := rfl
@[simp] theorem kLoop_cnt (e : ME) (f : ME → Option (Out × ME)) : kLoop (some (.cnt, e)) f = f e := rfl
@[simp] theorem kLoop_brk (e : ME) (f : ME → Option (Out × ME)) : kLoop (some (.brk, e)) f = some (.nx, e) := rfl
@[simp] theorem kLoop_ret (r : FR) (e : ME) (f : ME → Option (Out × ME)) : kLoop (some (.ret r, e)) f = some (.ret r, e) := rfl
@[simp] theorem kLoop_ex (r : Ex) (e : ME) (f : ME → Option (Out × ME)) : kLoop (some (.ex r, e)) f = some (.ex r, e) := rfl
@[simp] theorem gTup_k (fs : List TF) (ds : List D) (e : ME) : gTupM fs (.tup ds) e = if ds.length = fs.length then gSls fs ds e else none := rfl
@[simp] theorem gSls_nil (e : ME) : gSls [] [] e = some e := rfl
@[simp] theorem gSls_cons (f : TF) (fs : List TF) (d : D) (ds : List D) (e : ME) : gSls (f :: fs) (d :: ds) e = kG (f d e) (gSls fs ds) := rfl
theorem oAdd_ok (x y : Str) (h : x.length ≤ 10000) (h' : y.length ≤ 10000) : oAdd (.str x) (.str y) = some (.str (x ++ y)) := by
  rw [oAdd_s, if_pos (small_le (by omega))]
@[simp] theorem oRep_b (b : Bool) : oRep (.bl b) = some (.str (if b = true then "True" else "False")) := by cases b <;> rfl
def kOff : Option (Option Sl) → Bool
  | some (some _) => false
  | _ => true
@[simp] theorem offAt_nil (e : ME) : offAt [] e = true := rfl
@[simp] theorem offAt_cons (i : Nat) (vs : List Nat) (e : ME) : offAt (i :: vs) e = (kOff e[i]? && offAt vs e) := by
  unfold offAt
  rw [List.all_cons]
  rfl
@[simp] theorem kOff_n : kOff (some none) = true := rfl
theorem gRng1_ok (j : Int) (h : -1000000000 ≤ j) (h' : j ≤ 1000000000) : gRng1 [.d (.int j)] = eRet (rng 0 j.toNat) := by
  show (if _ then _ else _) = _
  rw [if_pos (by omega)]
theorem gRng2_ok (i j : Int) (h : -1000000000 ≤ i) (h' : i ≤ 1000000000) (k : -1000000000 ≤ j) (k' : j ≤ 1000000000) : gRng2 [.d (.int i), .d (.int j)] = eRet (rng i (j - i).toNat) := by
  show (if _ then _ else _) = _
  rw [if_pos (by omega)]
theorem oNe_s (x y : Str) (h : PyData.strOk x = true) (h' : PyData.strOk y = true) : oNe (.str x) (.str y) = some (.bl (!(x == y))) := by
  simp [oNe, eqD, toPy, SeqAt.shaped, PyData.canLay0, PyData.depth, PyData.eqv, h, h']
theorem oEq_s (x y : Str) (h : PyData.strOk x = true) (h' : PyData.strOk y = true) : oEq (.str x) (.str y) = some (.bl (x == y)) := by
  simp [oEq, eqD, toPy, SeqAt.shaped, PyData.canLay0, PyData.depth, PyData.eqv, h, h']
@[simp] theorem oEq_i (x y : Int) : oEq (.int x) (.int y) = some (.bl (x == y)) := by
  simp [oEq, eqD, toPy, SeqAt.shaped, PyData.canLay0, PyData.depth, PyData.eqv]
@[simp] theorem oNe_i (x y : Int) : oNe (.int x) (.int y) = some (.bl (!(x == y))) := by
  simp [oNe, eqD, toPy, SeqAt.shaped, PyData.canLay0, PyData.depth, PyData.eqv]
@[simp] theorem oEq_b (x y : Bool) : oEq (.bl x) (.bl y) = some (.bl (x == y)) := by
  simp [oEq, eqD, toPy, SeqAt.shaped, PyData.canLay0, PyData.depth, PyData.eqv]
@[simp] theorem oNe_b (x y : Bool) : oNe (.bl x) (.bl y) = some (.bl (!(x == y))) := by
  simp [oNe, eqD, toPy, SeqAt.shaped, PyData.canLay0, PyData.depth, PyData.eqv]
theorem neTT : oNe (.str "True") (.str "True") = some (.bl false) := by
  rw [oNe_s _ _ (by decide +kernel) (by decide +kernel)]
  have : ((("True" : Str) == ("True" : Str)) : Bool) = true := by decide +kernel
  rw [this]
  rfl
theorem neFF : oNe (.str "False") (.str "False") = some (.bl false) := by
  rw [oNe_s _ _ (by decide +kernel) (by decide +kernel)]
  have : ((("False" : Str) == ("False" : Str)) : Bool) = true := by decide +kernel
  rw [this]
  rfl
end Mir

namespace Mir.Lk01
open PySem PySem.Spec PyProof.Rows L2 Mir
/-! ### the text -/
def top (i : Nat) : Stmt := PySem.Challenge.pw_standinparts_k01_words_and_dates.main.body.getD i (.Pass ⟨0, 0, 0, 0⟩)
abbrev s_is_integer : Stmt := top 5
abbrev s__law_draw : Stmt := top 9
abbrev s_is_date : Stmt := top 6
abbrev s_is_word : Stmt := top 4
abbrev s__law_pick : Stmt := top 10
abbrev s__law_pool : Stmt := top 8
abbrev s_law : Stmt := top 11
abbrev n_is_integer : List Str := ["value", "lowest", "highest"]
theorem sc_is_integer : FnScope n_is_integer ["value", "lowest", "highest"] (defScope s_is_integer) := ⟨rfl, rfl, rfl, by decide +kernel, rfl, by decide +kernel, by decide +kernel⟩
abbrev n__law_draw : List Str := ["_law_pool_here", "_law_many", "_law_found"]
theorem sc__law_draw : FnScope n__law_draw ["_law_pool_here", "_law_many"] (defScope s__law_draw) := ⟨rfl, rfl, rfl, by decide +kernel, rfl, by decide +kernel, by decide +kernel⟩
abbrev n_is_date : List Str := ["value"]
theorem sc_is_date : FnScope n_is_date ["value"] (defScope s_is_date) := ⟨rfl, rfl, rfl, by decide +kernel, rfl, by decide +kernel, by decide +kernel⟩
abbrev n_is_word : List Str := ["value", "sign"]
theorem sc_is_word : FnScope n_is_word ["value"] (defScope s_is_word) := ⟨rfl, rfl, rfl, by decide +kernel, rfl, by decide +kernel, by decide +kernel⟩
abbrev n__law_pick : List Str := ["_law_pool_here", "_law_row"]
theorem sc__law_pick : FnScope n__law_pick ["_law_pool_here", "_law_row"] (defScope s__law_pick) := ⟨rfl, rfl, rfl, by decide +kernel, rfl, by decide +kernel, by decide +kernel⟩
abbrev n__law_pool : List Str := ["_law_script", "_law_k", "_law_cell", "_law_size", "_law_mixed"]
theorem sc__law_pool : FnScope n__law_pool ["_law_script", "_law_k"] (defScope s__law_pool) := ⟨rfl, rfl, rfl, by decide +kernel, rfl, by decide +kernel, by decide +kernel⟩
abbrev n_law : List Str := ["_law_script", "_law_signs", "_law_k", "_law_pool_here", "_law_word", "_law_at", "_law_sign", "_law_odd", "_law_dates", "_law_value", "_law_due", "_law_low", "_law_turn"]
theorem sc_law : FnScope n_law ["_law_script"] (defScope s_law) := ⟨rfl, rfl, rfl, by decide +kernel, rfl, by decide +kernel, by decide +kernel⟩
/-! ### what each def computes -/
-- is_integer: 0=value 1=lowest 2=highest
def g_is_integer : SF :=
  sRet (eDF (eAndV (eBind (eCons (eName 0) (eCons (eD (eRet (.ty "int"))) (eRet []))) (g2 fun a b => eOn2 a b oIsi)) (eAndV (eNotV (eBind (eCons (eName 0) (eCons (eD (eRet (.ty "bool"))) (eRet []))) (g2 fun a b => eOn2 a b oIsi))) (eChain (eName 1) (eName 0) (eName 2) oLe oLe))))
def m_is_integer : MF := mDef 3 0 g_is_integer
-- _law_draw: 0=_law_pool_here 1=_law_many 2=_law_found
def g__law_draw : SF :=
  sSeq (sIf (eT (e2 (eD (e2 (eName 0) (eD (eRet (.int 0))) fun x y => eOn2 x y oIx)) (eD (eRet (.int 0))) fun x y => eOn2 x y oGt)) (sSeq (sSet 2 (e2 (eD (eBind (eCons (eD (e2 (eName 0) (eD (eRet (.int 0))) fun x y => eOn2 x y oIx)) (eRet [])) (g1 fun a => eOn a oInt))) (eName 1) fun x y => eOn2 x y oMod))
  (sSeq (sPutIx 0 (e2 (eD (e2 (eName 0) (eD (eRet (.int 0))) fun x y => eOn2 x y oIx)) (eName 1) fun x y => eOn2 x y oFdiv) (eRet (.int 0)))
  (sRet (eOut 2)))) (sNx))
  (sSeq (sPutIx 0 (e2 (eD (eBind (eCons (eD (e2 (eD (e2 (eD (e2 (eName 0) (eD (eRet (.int 1))) fun x y => eOn2 x y oIx)) (eD (eRet (.int 48271))) fun x y => eOn2 x y oMul)) (eD (eRet (.int 11))) fun x y => eOn2 x y oAdd)) (eRet [])) (g1 fun a => eOn a oInt))) (eD (eRet (.int 2147483647))) fun x y => eOn2 x y oMod) (eRet (.int 1)))
  (sRet (eDF (e2 (eD (eBind (eCons (eD (e2 (eD (e2 (eD (eBind (eCons (eD (e2 (eD (e2 (eName 0) (eD (eRet (.int 1))) fun x y => eOn2 x y oIx)) (eD (e2 (eName 0) (eD (eRet (.int 1))) fun x y => eOn2 x y oIx)) fun x y => eOn2 x y oMul)) (eRet [])) (g1 fun a => eOn a oInt))) (eD (eRet (.int 2147483629))) fun x y => eOn2 x y oMod)) (eD (eRet (.int 16))) fun x y => eOn2 x y oFdiv)) (eRet [])) (g1 fun a => eOn a oInt))) (eName 1) fun x y => eOn2 x y oMod))))
def m__law_draw : MF := mDef 2 1 g__law_draw
-- is_date: 0=value
def g_is_date : SF :=
  sRet (eCall m_is_integer (eCons (eName 0) (eCons (eD (eRet (.int 0))) (eCons (eD (eRet (.int 9999))) (eRet [])))))
def m_is_date : MF := mDef 1 0 g_is_date
-- is_word: 0=value 1=sign
def g_is_word : SF :=
  sSeq (sIf (eOr (eNot (eT (eBind (eCons (eName 0) (eCons (eD (eRet (.ty "str"))) (eRet []))) (g2 fun a b => eOn2 a b oIsi)))) (eNot (eT (eChain (eD (eRet (.int 1))) (eD (eBind (eCons (eName 0) (eRet [])) (g1 fun a => eOn a oLen))) (eD (eRet (.int 8))) oLe oLe)))) (sRet (eDF (eRet (.bl false)))) (sNx))
  (sRet (eDF (eBind (eCons (eD (eFz (eLc [1] (eOf (eFrz 0)) (gSl 1) (eRet true) (e2 (eName 1) (eD (eRet (.str "abcdefghijklmnopqrstuvwxyz"))) fun x y => eOn2 x y oIn)))) (eRet [])) (g1 fun a => eOn a oAll))))
def m_is_word : MF := mDef 1 1 g_is_word
-- _law_pick: 0=_law_pool_here 1=_law_row
def g__law_pick : SF :=
  sRet (eDF (e2 (eName 1) (eD (eFz (eCall m__law_draw (eCons (eName 0) (eCons (eD (eBind (eCons (eName 1) (eRet [])) (g1 fun a => eOn a oLen))) (eRet [])))))) fun x y => eOn2 x y oIx))
def m__law_pick : MF := mDef 2 0 g__law_pick
-- _law_pool: 0=_law_script 1=_law_k 2=_law_cell 3=_law_size 4=_law_mixed
def g__law_pool : SF :=
  sSeq (sSet 2 (eIf (eT (e2 (eName 1) (eD (eBind (eCons (eName 0) (eRet [])) (g1 fun a => eOn a oLen))) fun x y => eOn2 x y oLt)) (e2 (eName 0) (eName 1) fun x y => eOn2 x y oIx) (e2 (eD (e2 (eD (eRet (.int 7))) (eD (eBind (eCons (eD (eSl (eName 0) (ePart none) (ePart (some (eRet (.int 63)))))) (eRet [])) (g1 fun a => eOn a oSum))) fun x y => eOn2 x y oMul)) (eName 1) fun x y => eOn2 x y oAdd)))
  (sSeq (sSet 3 (eBind (eCons (eName 2) (eRet [])) (g1 fun a => eOn a oAbs)))
  (sSeq (sSet 4 (e2 (eD (e2 (eD (e2 (eD (e2 (eD (eBind (eCons (eName 3) (eRet [])) (g1 fun a => eOn a oInt))) (eD (eRet (.int 2147483629))) fun x y => eOn2 x y oMod)) (eD (e2 (eD (e2 (eD (eRet (.int 7919))) (eName 1) fun x y => eOn2 x y oMul)) (eName 1) fun x y => eOn2 x y oMul)) fun x y => eOn2 x y oAdd)) (eD (e2 (eD (eRet (.int 31))) (eName 1) fun x y => eOn2 x y oMul)) fun x y => eOn2 x y oAdd)) (eD (eRet (.int 17))) fun x y => eOn2 x y oAdd))
  (sSeq (sSet 4 (e2 (eD (eBind (eCons (eD (e2 (eName 4) (eD (eRet (.int 48271))) fun x y => eOn2 x y oMul)) (eRet [])) (g1 fun a => eOn a oInt))) (eD (eRet (.int 2147483647))) fun x y => eOn2 x y oMod))
  (sRet (eLst (eCons (eD (e2 (eName 3) (eD (eBind (eCons (eD (e2 (eName 3) (eD (e2 (eD (eRet (.int 10))) (eD (eRet (.int 18))) fun x y => eOn2 x y oPow)) fun x y => eOn2 x y oGe)) (eRet [])) (g1 fun a => eOn a oInt))) fun x y => eOn2 x y oMul)) (eCons (eD (e2 (eD (eBind (eCons (eD (e2 (eName 4) (eName 4) fun x y => eOn2 x y oMul)) (eRet [])) (g1 fun a => eOn a oInt))) (eD (eRet (.int 2147483629))) fun x y => eOn2 x y oMod)) (eRet []))))))))
def m__law_pool : MF := mDef 2 3 g__law_pool
-- law: 0=_law_script 1=_law_signs 2=_law_k 3=_law_pool_here 4=_law_word 5=_law_at 6=_law_sign 7=_law_odd 8=_law_dates 9=_law_value 10=_law_due 11=_law_low 12=_law_turn
def l_law_0 : SF :=
  sIf (eT (e2 (eD (eFz (eCall m_is_integer (eCons (eName 7) (eCons (eD (eRet (.int 0))) (eCons (eD (eRet (.int 5))) (eRet []))))))) (eD (eRet (.bl false))) fun x y => eOn2 x y oIsNot)) (sRet (eDF (eRet (.bl false)))) (sNx)
def l_law_1 : SF :=
  sIf (eT (e2 (eD (eBind (eCons (eD (eFz (eCall m_is_integer (eCons (eName 9) (eCons (eName 11) (eCons (eD (e2 (eName 11) (eD (eRet (.int 2))) fun x y => eOn2 x y oAdd)) (eRet []))))))) (eRet [])) (g1 fun a => eOn a oRep))) (eD (eBind (eCons (eD (eChain (eName 11) (eName 9) (eD (e2 (eName 11) (eD (eRet (.int 2))) fun x y => eOn2 x y oAdd)) oLe oLe)) (eRet [])) (g1 fun a => eOn a oRep))) fun x y => eOn2 x y oNe)) (sRet (eDF (eRet (.bl false)))) (sNx)
def l_law_2 : SF :=
  sIf (eT (e2 (eD (eBind (eCons (eD (eFz (eCall m_is_date (eCons (eName 9) (eRet []))))) (eRet [])) (g1 fun a => eOn a oRep))) (eD (eBind (eCons (eName 10) (eRet [])) (g1 fun a => eOn a oRep))) fun x y => eOn2 x y oNe)) (sRet (eDF (eRet (.bl false)))) (sNx)
def l_law_3 : SF :=
  sIf (eT (e2 (eD (eFz (eCall m_is_word (eCons (eName 7) (eRet []))))) (eD (eRet (.bl false))) fun x y => eOn2 x y oIsNot)) (sRet (eDF (eRet (.bl false)))) (sNx)
def l_law_4 : SF :=
  sIf (eT (e2 (eD (eFz (eCall m_is_word (eCons (eD (e2 (eD (e2 (eD (eSl (eName 4) (ePart none) (ePart (some (eFrz 5))))) (eName 6) fun x y => eOn2 x y oAdd)) (eD (eSl (eName 4) (ePart (some (e2 (eName 5) (eD (eRet (.int 1))) fun x y => eOn2 x y oAdd))) (ePart none))) fun x y => eOn2 x y oAdd)) (eRet []))))) (eD (eRet (.bl false))) fun x y => eOn2 x y oIsNot)) (sRet (eDF (eRet (.bl false)))) (sNx)
def l_law_5 : SF :=
  sSeq (sSetF 3 (eCall m__law_pool (eCons (eName 0) (eCons (eName 2) (eRet [])))))
  (sSeq (sSet 4 (eJoin (eRet (.str "")) (eD (eFz (eLc [12] (eBind (eCons (eD (e2 (eD (eRet (.int 1))) (eD (eFz (eCall m__law_draw (eCons (eName 3) (eCons (eD (eRet (.int 8))) (eRet [])))))) fun x y => eOn2 x y oAdd)) (eRet [])) gRng1) (gSl 12) (eRet true) (eFz (eCall m__law_pick (eCons (eName 3) (eCons (eName 1) (eRet []))))))))))
  (sSeq (sIf (eOr (eT (e2 (eD (eFz (eCall m_is_word (eCons (eName 4) (eRet []))))) (eD (eRet (.bl true))) fun x y => eOn2 x y oIsNot)) (eT (e2 (eD (eFz (eCall m_is_word (eCons (eD (e2 (eD (e2 (eName 4) (eName 4) fun x y => eOn2 x y oAdd)) (eD (eRet (.str "abcdefgh"))) fun x y => eOn2 x y oAdd)) (eRet []))))) (eD (eRet (.bl false))) fun x y => eOn2 x y oIsNot))) (sRet (eDF (eRet (.bl false)))) (sNx))
  (sSeq (sIf (eOr (eT (e2 (eD (eFz (eCall m_is_word (eCons (eD (eSl (eD (e2 (eName 4) (eD (eRet (.str "abcdefgh"))) fun x y => eOn2 x y oAdd)) (ePart none) (ePart (some (eRet (.int 9)))))) (eRet []))))) (eD (eRet (.bl false))) fun x y => eOn2 x y oIsNot)) (eT (e2 (eD (eFz (eCall m_is_word (eCons (eD (eSl (eD (e2 (eName 4) (eD (eRet (.str "abcdefgh"))) fun x y => eOn2 x y oAdd)) (ePart none) (ePart (some (eRet (.int 8)))))) (eRet []))))) (eD (eRet (.bl true))) fun x y => eOn2 x y oIsNot))) (sRet (eDF (eRet (.bl false)))) (sNx))
  (sSeq (sSetF 5 (eCall m__law_draw (eCons (eName 3) (eCons (eD (eBind (eCons (eName 4) (eRet [])) (g1 fun a => eOn a oLen))) (eRet [])))))
  (sSeq (sFor (eOf (eFz (eLst (eCons (eD (eRet (.str "A"))) (eCons (eD (eRet (.str " "))) (eCons (eD (eRet (.str "1"))) (eCons (eD (eRet (.str "-"))) (eCons (eD (eRet (.str "\n"))) (eCons (eD (eRet (.str "_"))) (eRet [])))))))))) (gSl 6) (l_law_4))
  (sSeq (sFor (eOf (eFz (eLst (eCons (eD (eRet (.str ""))) (eCons (eD (eRet .non)) (eCons (eD (eRet (.int 5))) (eCons (eD (eRet (.bl true))) (eCons (eD (eTup (eCons (eD (eRet (.str "a"))) (eRet [])))) (eCons (eD (eFz (eLst (eCons (eD (eRet (.str "a"))) (eRet []))))) (eCons (eD (eFz (eRet (.o (.dK []))))) (eRet []))))))))))) (gSl 7) (l_law_3))
  (sSeq (sSetF 8 (eLst (eCons (eD (eTup (eCons (eD (eRet (.int 0))) (eCons (eD (eRet (.bl true))) (eRet []))))) (eCons (eD (eTup (eCons (eD (eRet (.int 9999))) (eCons (eD (eRet (.bl true))) (eRet []))))) (eCons (eD (eTup (eCons (eD (eBind (eRet (.int 1)) oNeg)) (eCons (eD (eRet (.bl false))) (eRet []))))) (eCons (eD (eTup (eCons (eD (eRet (.int 10000))) (eCons (eD (eRet (.bl false))) (eRet []))))) (eCons (eD (eTup (eCons (eD (eRet (.bl true))) (eCons (eD (eRet (.bl false))) (eRet []))))) (eCons (eD (eTup (eCons (eD (eRet .non)) (eCons (eD (eRet (.bl false))) (eRet []))))) (eRet [])))))))))
  (sSeq (sFor (eOf (e2 (eName 8) (eD (eFz (eLst (eCons (eD (eTup (eCons (eD (eRet (.str "5"))) (eCons (eD (eRet (.bl false))) (eRet []))))) (eRet []))))) fun x y => eOn2 x y oAdd)) (gTupM [gSl 9, gSl 10]) (l_law_2))
  (sSeq (sSet 11 (e2 (eD (eFz (eCall m__law_draw (eCons (eName 3) (eCons (eD (e2 (eD (eRet (.int 2))) (eD (e2 (eD (eRet (.int 10))) (eD (eRet (.int 30))) fun x y => eOn2 x y oPow)) fun x y => eOn2 x y oMul)) (eRet [])))))) (eD (e2 (eD (eRet (.int 10))) (eD (eRet (.int 30))) fun x y => eOn2 x y oPow)) fun x y => eOn2 x y oSub))
  (sSeq (sFor (eOf (eFz (eLst (eCons (eD (e2 (eName 11) (eD (eRet (.int 1))) fun x y => eOn2 x y oSub)) (eCons (eName 11) (eCons (eD (e2 (eName 11) (eD (eRet (.int 1))) fun x y => eOn2 x y oAdd)) (eCons (eD (e2 (eName 11) (eD (eRet (.int 2))) fun x y => eOn2 x y oAdd)) (eCons (eD (e2 (eName 11) (eD (eRet (.int 3))) fun x y => eOn2 x y oAdd)) (eRet []))))))))) (gSl 9) (l_law_1))
  (sFor (eOf (eFz (eLst (eCons (eD (eRet .non)) (eCons (eD (eRet (.bl true))) (eCons (eD (eRet (.bl false))) (eCons (eD (eRet (.str "1"))) (eCons (eD (eTup (eCons (eD (eRet (.int 1))) (eRet [])))) (eRet []))))))))) (gSl 7) (l_law_0))))))))))))
def g_law : SF :=
  sSeq (sSet 1 (eRet (.str "abcdefghijklmnopqrstuvwxyz")))
  (sSeq (sFor (eBind (eCons (eD (eBind (eCons (eD (eRet (.int 1))) (eCons (eD (eBind (eCons (eD (eBind (eCons (eName 0) (eRet [])) (g1 fun a => eOn a oLen))) (eCons (eD (eRet (.int 4))) (eRet []))) (g2 fun a b => eOn2 a b oMin))) (eRet []))) (g2 fun a b => eOn2 a b oMax))) (eRet [])) gRng1) (gSl 2) (l_law_5))
  (sRet (eDF (eRet (.bl true)))))
def m_law : MF := mDef 1 12 g_law
/-! ### facts of the top -/
structure Tx (K : PySem.W.Frag) (mg : Str → Option Value) where
  f_is_integer : Addr
  fd_is_integer : FuncData
  F_is_integer : Fun K "is_integer" "is_integer" s_is_integer f_is_integer fd_is_integer
  g_is_integer : mg "is_integer" = some (.ref f_is_integer)
  b_is_integer : Binds K fd_is_integer ["value", "lowest", "highest"] []
  f__law_draw : Addr
  fd__law_draw : FuncData
  F__law_draw : Fun K "_law_draw" "_law_draw" s__law_draw f__law_draw fd__law_draw
  g__law_draw : mg "_law_draw" = some (.ref f__law_draw)
  b__law_draw : Binds K fd__law_draw ["_law_pool_here", "_law_many"] []
  f_is_date : Addr
  fd_is_date : FuncData
  F_is_date : Fun K "is_date" "is_date" s_is_date f_is_date fd_is_date
  g_is_date : mg "is_date" = some (.ref f_is_date)
  b_is_date : Binds K fd_is_date ["value"] []
  f_is_word : Addr
  fd_is_word : FuncData
  F_is_word : Fun K "is_word" "is_word" s_is_word f_is_word fd_is_word
  g_is_word : mg "is_word" = some (.ref f_is_word)
  b_is_word : Binds K fd_is_word ["value"] []
  f__law_pick : Addr
  fd__law_pick : FuncData
  F__law_pick : Fun K "_law_pick" "_law_pick" s__law_pick f__law_pick fd__law_pick
  g__law_pick : mg "_law_pick" = some (.ref f__law_pick)
  b__law_pick : Binds K fd__law_pick ["_law_pool_here", "_law_row"] []
  f__law_pool : Addr
  fd__law_pool : FuncData
  F__law_pool : Fun K "_law_pool" "_law_pool" s__law_pool f__law_pool fd__law_pool
  g__law_pool : mg "_law_pool" = some (.ref f__law_pool)
  b__law_pool : Binds K fd__law_pool ["_law_script", "_law_k"] []
  f_law : Addr
  fd_law : FuncData
  F_law : Fun K "law" "law" s_law f_law fd_law
  g_law : mg "law" = some (.ref f_law)
  b_law : Binds K fd_law ["_law_script"] []
  z_range : mg "range" = none
  z_len : mg "len" = none
  z_min : mg "min" = none
  z_max : mg "max" = none
  z_repr : mg "repr" = none
  z_bool : mg "bool" = none
  z_isinstance : mg "isinstance" = none
  z_int : mg "int" = none
  z_all : mg "all" = none
  z_str : mg "str" = none
  z_abs : mg "abs" = none
  z_sum : mg "sum" = none
  k_LAST_DATE : ∃ t, mg "LAST_DATE" = some (.int 9999 t)
  k_LETTERS : ∃ t, mg "LETTERS" = some (.str "abcdefghijklmnopqrstuvwxyz" t)
  k_MOST_LETTERS : ∃ t, mg "MOST_LETTERS" = some (.int 8 t)
section
variable {P : Program} {w : World} {K : PySem.W.Frag} {mg : Str → Option Value} {base : Heap}
theorem ok_is_integer (T : Tx K mg) : FnOk P w K mg base (L2.CX P w) 1 T.f_is_integer T.fd_is_integer ["value", "lowest", "highest"] (spM K 3 m_is_integer) := by
  have Sc := sc_is_integer
  refine okM (j := 0) T.F_is_integer Sc rfl rfl fun cdv A outer s H E hR tk => ?_
  exact (db_one (ds_ret (df_of (de_and (de_isi T.z_isinstance (da_cons (dv_name 0) (da_cons (dv_of (de_ty T.z_int rfl)) da_nil))) (de_and (de_not (de_isi T.z_isinstance (da_cons (dv_name 0) (da_cons (dv_of (de_ty T.z_bool rfl)) da_nil)))) (de_one (e_chain c_le c_le (dv_name 1) (dv_name 0) (dv_name 2))))))))
theorem ok__law_draw (T : Tx K mg) : FnOk P w K mg base (L2.CX P w) 1 T.f__law_draw T.fd__law_draw ["_law_pool_here", "_law_many"] (spM K 2 m__law_draw) := by
  have Sc := sc__law_draw
  refine okM (j := 0) T.F__law_draw Sc rfl rfl fun cdv A outer s H E hR tk => ?_
  exact (db_cons (ds_if (t_cmp c_gt (dv_of (de_ix (dv_name 0) (dv_of de_int))) (dv_of de_int)) (db_cons (ds_set 2 Sc.nd (b_mod (dv_of (de_int1 T.z_int (da_cons (dv_of (de_ix (dv_name 0) (dv_of de_int))) da_nil))) (dv_name 1)))
  (db_cons (ds_putIx 0 (b_fdiv (dv_of (de_ix (dv_name 0) (dv_of de_int))) (dv_name 1)) de_int)
  (db_one (ds_ret (df_out 2))))) db_nil)
  (db_cons (ds_putIx 0 (b_mod (dv_of (de_int1 T.z_int (da_cons (dv_of (b_add (dv_of (b_mul (dv_of (de_ix (dv_name 0) (dv_of de_int))) (dv_of de_int))) (dv_of de_int))) da_nil))) (dv_of de_int)) de_int)
  (db_one (ds_ret (df_of (b_mod (dv_of (de_int1 T.z_int (da_cons (dv_of (b_fdiv (dv_of (b_mod (dv_of (de_int1 T.z_int (da_cons (dv_of (b_mul (dv_of (de_ix (dv_name 0) (dv_of de_int))) (dv_of (de_ix (dv_name 0) (dv_of de_int))))) da_nil))) (dv_of de_int))) (dv_of de_int))) da_nil))) (dv_name 1)))))))
theorem ok_is_date (T : Tx K mg) : FnOk P w K mg base (L2.CX P w) 2 T.f_is_date T.fd_is_date ["value"] (spM K 1 m_is_date) := by
  have Sc := sc_is_date
  refine okM (j := 1) T.F_is_date Sc rfl rfl fun cdv A outer s H E hR tk => ?_
  exact (db_one (ds_ret (df_call tk (ok_is_integer T) T.g_is_integer T.F_is_integer.kp T.b_is_integer hR (by decide) (da_cons (dv_name 0) (da_cons (dv_of de_int) (da_cons (dv_of (de_gint T.k_LAST_DATE)) da_nil))) (Len.cons (Len.cons (Len.cons Len.nil))))))
theorem ok_is_word (T : Tx K mg) : FnOk P w K mg base (L2.CX P w) 1 T.f_is_word T.fd_is_word ["value"] (spM K 1 m_is_word) := by
  have Sc := sc_is_word
  refine okM (j := 0) T.F_is_word Sc rfl rfl fun cdv A outer s H E hR tk => ?_
  exact (db_cons (ds_if (dt_w (dw_or (dt_not (dt_val (de_isi T.z_isinstance (da_cons (dv_name 0) (da_cons (dv_of (de_ty T.z_str rfl)) da_nil))))) (dw_or1 (dt_not (t_chain c_le c_le (dv_of de_int) (dv_of (de_len T.z_len (da_cons (dv_name 0) da_nil))) (dv_of (de_gint T.k_MOST_LETTERS))))))) (db_one (ds_ret (df_of de_bl))) db_nil)
  (db_one (ds_ret (df_of (de_all rfl T.z_all (da_cons (dv_of (de_fz (df_lc (own := [("sign", 1)]) rfl Sc.nd (di_val (de_frz 0)) (blkOk_by (by show blkC n_is_word (defScope s_is_word) _ _ = true; decide +kernel)) (fun _ _ _ _ _ => (dgv_name 1 Sc.nd)) (fun _ _ _ _ _ => dts_nil) (fun _ _ _ _ _ => (e_cmp (c_in hR) (dv_name 1) (dv_of (de_gstr T.k_LETTERS))))))) da_nil))))))
theorem ok__law_pick (T : Tx K mg) : FnOk P w K mg base (L2.CX P w) 2 T.f__law_pick T.fd__law_pick ["_law_pool_here", "_law_row"] (spM K 2 m__law_pick) := by
  have Sc := sc__law_pick
  refine okM (j := 1) T.F__law_pick Sc rfl rfl fun cdv A outer s H E hR tk => ?_
  exact (db_one (ds_ret (df_of (de_ix (dv_name 1) (dv_of (de_fz (df_call tk (ok__law_draw T) T.g__law_draw T.F__law_draw.kp T.b__law_draw hR (by decide) (da_cons (dv_name 0) (da_cons (dv_of (de_len T.z_len (da_cons (dv_name 1) da_nil))) da_nil)) (Len.cons (Len.cons Len.nil)))))))))
theorem ok__law_pool (T : Tx K mg) : FnOk P w K mg base (L2.CX P w) 1 T.f__law_pool T.fd__law_pool ["_law_script", "_law_k"] (spM K 2 m__law_pool) := by
  have Sc := sc__law_pool
  refine okM (j := 0) T.F__law_pool Sc rfl rfl fun cdv A outer s H E hR tk => ?_
  exact (db_cons (ds_set 2 Sc.nd (de_if (t_cmp c_lt (dv_name 1) (dv_of (de_len T.z_len (da_cons (dv_name 0) da_nil)))) (de_ix (dv_name 0) (dv_name 1)) (b_add (dv_of (b_mul (dv_of de_int) (dv_of (de_sum rfl T.z_sum (da_cons (dv_of (de_sl (dv_name 0) dp_none (dp_some de_int))) da_nil))))) (dv_name 1))))
  (db_cons (ds_set 3 Sc.nd (de_abs T.z_abs (da_cons (dv_name 2) da_nil)))
  (db_cons (ds_set 4 Sc.nd (b_add (dv_of (b_add (dv_of (b_add (dv_of (b_mod (dv_of (de_int1 T.z_int (da_cons (dv_name 3) da_nil))) (dv_of de_int))) (dv_of (b_mul (dv_of (b_mul (dv_of de_int) (dv_name 1))) (dv_name 1))))) (dv_of (b_mul (dv_of de_int) (dv_name 1))))) (dv_of de_int)))
  (db_cons (ds_set 4 Sc.nd (b_mod (dv_of (de_int1 T.z_int (da_cons (dv_of (b_mul (dv_name 4) (dv_of de_int))) da_nil))) (dv_of de_int)))
  (db_one (ds_ret (df_lst (da_cons (dv_of (b_mul (dv_name 3) (dv_of (de_int1 T.z_int (da_cons (dv_of (e_cmp c_ge (dv_name 3) (dv_of (b_pow (dv_of de_int) (dv_of de_int))))) da_nil))))) (da_cons (dv_of (b_mod (dv_of (de_int1 T.z_int (da_cons (dv_of (b_mul (dv_name 4) (dv_name 4))) da_nil))) (dv_of de_int))) da_nil)))))))))
theorem ok_law (T : Tx K mg) : FnOk P w K mg base (L2.CX P w) 3 T.f_law T.fd_law ["_law_script"] (spM K 1 m_law) := by
  have Sc := sc_law
  refine okM (j := 2) T.F_law Sc rfl rfl fun cdv A outer s H E hR tk => ?_
  exact (db_cons (ds_set 1 Sc.nd de_str)
  (db_cons (ds_for (passes_of rfl) rfl (di_range1 T.z_range (da_cons (dv_of (de_max2 rfl T.z_max (da_cons (dv_of de_int) (da_cons (dv_of (de_min2 rfl T.z_min (da_cons (dv_of (de_len T.z_len (da_cons (dv_name 0) da_nil))) (da_cons (dv_of de_int) da_nil)))) da_nil)))) da_nil)) (dg_name 2 Sc.nd) (db_cons (ds_setF 3 Sc.nd (df_call tk (ok__law_pool T) T.g__law_pool T.F__law_pool.kp T.b__law_pool hR (by decide) (da_cons (dv_name 0) (da_cons (dv_name 2) da_nil)) (Len.cons (Len.cons Len.nil))))
  (db_cons (ds_set 4 Sc.nd (de_join de_str (dv_of (de_fz (df_lc (own := [("_law_turn", 12)]) rfl Sc.nd (di_range1 T.z_range (da_cons (dv_of (b_add (dv_of de_int) (dv_of (de_fz (df_call tk (ok__law_draw T) T.g__law_draw T.F__law_draw.kp T.b__law_draw hR (by decide) (da_cons (dv_name 3) (da_cons (dv_of de_int) da_nil)) (Len.cons (Len.cons Len.nil))))))) da_nil)) (blkOk_by (by show blkC n_law (defScope s_law) _ _ = true; decide +kernel)) (fun _ _ _ _ _ => (dgv_name 12 Sc.nd)) (fun _ _ _ _ _ => dts_nil) (fun _ _ _ _ _ => (de_fz (df_call tk0 (ok__law_pick T) T.g__law_pick T.F__law_pick.kp T.b__law_pick hR (by decide) (da_cons (dv_name 3) (da_cons (dv_name 1) da_nil)) (Len.cons (Len.cons Len.nil))))))))))
  (db_cons (ds_if (dt_w (dw_or (t_cmp c_isnot (dv_of (de_fz (df_call tk (ok_is_word T) T.g_is_word T.F_is_word.kp T.b_is_word hR (by decide) (da_cons (dv_name 4) da_nil) (Len.cons Len.nil)))) (dv_of de_bl)) (dw_or1 (t_cmp c_isnot (dv_of (de_fz (df_call tk (ok_is_word T) T.g_is_word T.F_is_word.kp T.b_is_word hR (by decide) (da_cons (dv_of (b_add (dv_of (b_add (dv_name 4) (dv_name 4))) (dv_of de_str))) da_nil) (Len.cons Len.nil)))) (dv_of de_bl))))) (db_one (ds_ret (df_of de_bl))) db_nil)
  (db_cons (ds_if (dt_w (dw_or (t_cmp c_isnot (dv_of (de_fz (df_call tk (ok_is_word T) T.g_is_word T.F_is_word.kp T.b_is_word hR (by decide) (da_cons (dv_of (de_sl (dv_of (b_add (dv_name 4) (dv_of de_str))) dp_none (dp_some de_int))) da_nil) (Len.cons Len.nil)))) (dv_of de_bl)) (dw_or1 (t_cmp c_isnot (dv_of (de_fz (df_call tk (ok_is_word T) T.g_is_word T.F_is_word.kp T.b_is_word hR (by decide) (da_cons (dv_of (de_sl (dv_of (b_add (dv_name 4) (dv_of de_str))) dp_none (dp_some de_int))) da_nil) (Len.cons Len.nil)))) (dv_of de_bl))))) (db_one (ds_ret (df_of de_bl))) db_nil)
  (db_cons (ds_setF 5 Sc.nd (df_call tk (ok__law_draw T) T.g__law_draw T.F__law_draw.kp T.b__law_draw hR (by decide) (da_cons (dv_name 3) (da_cons (dv_of (de_len T.z_len (da_cons (dv_name 4) da_nil))) da_nil)) (Len.cons (Len.cons Len.nil))))
  (db_cons (ds_for (passes_of rfl) rfl (di_val (de_fz (df_lst (da_cons (dv_of de_str) (da_cons (dv_of de_str) (da_cons (dv_of de_str) (da_cons (dv_of de_str) (da_cons (dv_of de_str) (da_cons (dv_of de_str) da_nil))))))))) (dg_name 6 Sc.nd) (db_one (ds_if (t_cmp c_isnot (dv_of (de_fz (df_call tk (ok_is_word T) T.g_is_word T.F_is_word.kp T.b_is_word hR (by decide) (da_cons (dv_of (b_add (dv_of (b_add (dv_of (de_sl (dv_name 4) dp_none (dp_some (de_frz 5)))) (dv_name 6))) (dv_of (de_sl (dv_name 4) (dp_some (b_add (dv_name 5) (dv_of de_int))) dp_none)))) da_nil) (Len.cons Len.nil)))) (dv_of de_bl)) (db_one (ds_ret (df_of de_bl))) db_nil)))
  (db_cons (ds_for (passes_of rfl) rfl (di_val (de_fz (df_lst (da_cons (dv_of de_str) (da_cons (dv_of de_non) (da_cons (dv_of de_int) (da_cons (dv_of de_bl) (da_cons (dv_of (de_tup (da_cons (dv_of de_str) da_nil))) (da_cons (dv_of (de_fz (df_lst (da_cons (dv_of de_str) da_nil)))) (da_cons (dv_of (de_fz df_dict0)) da_nil)))))))))) (dg_name 7 Sc.nd) (db_one (ds_if (t_cmp c_isnot (dv_of (de_fz (df_call tk (ok_is_word T) T.g_is_word T.F_is_word.kp T.b_is_word hR (by decide) (da_cons (dv_name 7) da_nil) (Len.cons Len.nil)))) (dv_of de_bl)) (db_one (ds_ret (df_of de_bl))) db_nil)))
  (db_cons (ds_setF 8 Sc.nd (df_lst (da_cons (dv_of (de_tup (da_cons (dv_of de_int) (da_cons (dv_of de_bl) da_nil)))) (da_cons (dv_of (de_tup (da_cons (dv_of de_int) (da_cons (dv_of de_bl) da_nil)))) (da_cons (dv_of (de_tup (da_cons (dv_of (de_neg de_int)) (da_cons (dv_of de_bl) da_nil)))) (da_cons (dv_of (de_tup (da_cons (dv_of de_int) (da_cons (dv_of de_bl) da_nil)))) (da_cons (dv_of (de_tup (da_cons (dv_of de_bl) (da_cons (dv_of de_bl) da_nil)))) (da_cons (dv_of (de_tup (da_cons (dv_of de_non) (da_cons (dv_of de_bl) da_nil)))) da_nil))))))))
  (db_cons (ds_for (passes_of rfl) rfl (di_val (b_add (dv_name 8) (dv_of (de_fz (df_lst (da_cons (dv_of (de_tup (da_cons (dv_of de_str) (da_cons (dv_of de_bl) da_nil)))) da_nil)))))) (dg_tup rfl (dgs_cons (dg_name 9 Sc.nd) (dgs_cons (dg_name 10 Sc.nd) dgs_nil))) (db_one (ds_if (t_cmp (c_ne hR) (dv_of (de_repr T.z_repr (da_cons (dv_of (de_fz (df_call tk (ok_is_date T) T.g_is_date T.F_is_date.kp T.b_is_date hR (by decide) (da_cons (dv_name 9) da_nil) (Len.cons Len.nil)))) da_nil))) (dv_of (de_repr T.z_repr (da_cons (dv_name 10) da_nil)))) (db_one (ds_ret (df_of de_bl))) db_nil)))
  (db_cons (ds_set 11 Sc.nd (b_sub (dv_of (de_fz (df_call tk (ok__law_draw T) T.g__law_draw T.F__law_draw.kp T.b__law_draw hR (by decide) (da_cons (dv_name 3) (da_cons (dv_of (b_mul (dv_of de_int) (dv_of (b_pow (dv_of de_int) (dv_of de_int))))) da_nil)) (Len.cons (Len.cons Len.nil))))) (dv_of (b_pow (dv_of de_int) (dv_of de_int)))))
  (db_cons (ds_for (passes_of rfl) rfl (di_val (de_fz (df_lst (da_cons (dv_of (b_sub (dv_name 11) (dv_of de_int))) (da_cons (dv_name 11) (da_cons (dv_of (b_add (dv_name 11) (dv_of de_int))) (da_cons (dv_of (b_add (dv_name 11) (dv_of de_int))) (da_cons (dv_of (b_add (dv_name 11) (dv_of de_int))) da_nil)))))))) (dg_name 9 Sc.nd) (db_one (ds_if (t_cmp (c_ne hR) (dv_of (de_repr T.z_repr (da_cons (dv_of (de_fz (df_call tk (ok_is_integer T) T.g_is_integer T.F_is_integer.kp T.b_is_integer hR (by decide) (da_cons (dv_name 9) (da_cons (dv_name 11) (da_cons (dv_of (b_add (dv_name 11) (dv_of de_int))) da_nil))) (Len.cons (Len.cons (Len.cons Len.nil)))))) da_nil))) (dv_of (de_repr T.z_repr (da_cons (dv_of (e_chain c_le c_le (dv_name 11) (dv_name 9) (dv_of (b_add (dv_name 11) (dv_of de_int))))) da_nil)))) (db_one (ds_ret (df_of de_bl))) db_nil)))
  (db_one (ds_for (passes_of rfl) rfl (di_val (de_fz (df_lst (da_cons (dv_of de_non) (da_cons (dv_of de_bl) (da_cons (dv_of de_bl) (da_cons (dv_of de_str) (da_cons (dv_of (de_tup (da_cons (dv_of de_int) da_nil))) da_nil)))))))) (dg_name 7 Sc.nd) (db_one (ds_if (t_cmp c_isnot (dv_of (de_fz (df_call tk (ok_is_integer T) T.g_is_integer T.F_is_integer.kp T.b_is_integer hR (by decide) (da_cons (dv_name 7) (da_cons (dv_of de_int) (da_cons (dv_of de_int) da_nil))) (Len.cons (Len.cons (Len.cons Len.nil)))))) (dv_of de_bl)) (db_one (ds_ret (df_of de_bl))) db_nil))))))))))))))))
  (db_one (ds_ret (df_of de_bl)))))
end
theorem all_mk {l : PySem.W.OpenLaw} {w : World} {K : PySem.W.Frag} {h : Heap} {mg : Str → Option Value} {fa : Addr} (X : K.In h) (G : h.Ns mainGlobals mg) (hfa : mg "law" = some (.ref fa))
    {f0 : Addr} {od0 an0 : Option Addr} {sl0 : Array (Option Value)} {oc0 kV0 dc0 pm0 cd0 ct0 : Value} (a0 : PySem.W.nsIn K mainGlobals "is_integer" = some (some (.ref f0)))
    (l0 : K.lookup f0 = some ⟨oc0, od0, .func (PySem.W.fnOf "is_integer" "is_integer" (defArgs s_is_integer) (defBody s_is_integer) (defScope s_is_integer) .none kV0 dc0 pm0 an0 cd0 ct0), sl0⟩) (c0 : PySem.W.codeIn K cd0 "is_integer" = true) (k0 : PySem.W.keepIn K (.ref f0) = true)
    {f1 : Addr} {od1 an1 : Option Addr} {sl1 : Array (Option Value)} {oc1 kV1 dc1 pm1 cd1 ct1 : Value} (a1 : PySem.W.nsIn K mainGlobals "_law_draw" = some (some (.ref f1)))
    (l1 : K.lookup f1 = some ⟨oc1, od1, .func (PySem.W.fnOf "_law_draw" "_law_draw" (defArgs s__law_draw) (defBody s__law_draw) (defScope s__law_draw) .none kV1 dc1 pm1 an1 cd1 ct1), sl1⟩) (c1 : PySem.W.codeIn K cd1 "_law_draw" = true) (k1 : PySem.W.keepIn K (.ref f1) = true)
    {f2 : Addr} {od2 an2 : Option Addr} {sl2 : Array (Option Value)} {oc2 kV2 dc2 pm2 cd2 ct2 : Value} (a2 : PySem.W.nsIn K mainGlobals "is_date" = some (some (.ref f2)))
    (l2 : K.lookup f2 = some ⟨oc2, od2, .func (PySem.W.fnOf "is_date" "is_date" (defArgs s_is_date) (defBody s_is_date) (defScope s_is_date) .none kV2 dc2 pm2 an2 cd2 ct2), sl2⟩) (c2 : PySem.W.codeIn K cd2 "is_date" = true) (k2 : PySem.W.keepIn K (.ref f2) = true)
    {f3 : Addr} {od3 an3 : Option Addr} {sl3 : Array (Option Value)} {oc3 kV3 dc3 pm3 cd3 ct3 : Value} (a3 : PySem.W.nsIn K mainGlobals "is_word" = some (some (.ref f3)))
    (l3 : K.lookup f3 = some ⟨oc3, od3, .func (PySem.W.fnOf "is_word" "is_word" (defArgs s_is_word) (defBody s_is_word) (defScope s_is_word) .none kV3 dc3 pm3 an3 cd3 ct3), sl3⟩) (c3 : PySem.W.codeIn K cd3 "is_word" = true) (k3 : PySem.W.keepIn K (.ref f3) = true)
    {f4 : Addr} {od4 an4 : Option Addr} {sl4 : Array (Option Value)} {oc4 kV4 dc4 pm4 cd4 ct4 : Value} (a4 : PySem.W.nsIn K mainGlobals "_law_pick" = some (some (.ref f4)))
    (l4 : K.lookup f4 = some ⟨oc4, od4, .func (PySem.W.fnOf "_law_pick" "_law_pick" (defArgs s__law_pick) (defBody s__law_pick) (defScope s__law_pick) .none kV4 dc4 pm4 an4 cd4 ct4), sl4⟩) (c4 : PySem.W.codeIn K cd4 "_law_pick" = true) (k4 : PySem.W.keepIn K (.ref f4) = true)
    {f5 : Addr} {od5 an5 : Option Addr} {sl5 : Array (Option Value)} {oc5 kV5 dc5 pm5 cd5 ct5 : Value} (a5 : PySem.W.nsIn K mainGlobals "_law_pool" = some (some (.ref f5)))
    (l5 : K.lookup f5 = some ⟨oc5, od5, .func (PySem.W.fnOf "_law_pool" "_law_pool" (defArgs s__law_pool) (defBody s__law_pool) (defScope s__law_pool) .none kV5 dc5 pm5 an5 cd5 ct5), sl5⟩) (c5 : PySem.W.codeIn K cd5 "_law_pool" = true) (k5 : PySem.W.keepIn K (.ref f5) = true)
    {f6 : Addr} {od6 an6 : Option Addr} {sl6 : Array (Option Value)} {oc6 kV6 dc6 pm6 cd6 ct6 : Value} (a6 : PySem.W.nsIn K mainGlobals "law" = some (some (.ref f6)))
    (l6 : K.lookup f6 = some ⟨oc6, od6, .func (PySem.W.fnOf "law" "law" (defArgs s_law) (defBody s_law) (defScope s_law) .none kV6 dc6 pm6 an6 cd6 ct6), sl6⟩) (c6 : PySem.W.codeIn K cd6 "law" = true) (k6 : PySem.W.keepIn K (.ref f6) = true)
    (z_range : PySem.W.nsIn K mainGlobals "range" = some none)
    (z_len : PySem.W.nsIn K mainGlobals "len" = some none)
    (z_min : PySem.W.nsIn K mainGlobals "min" = some none)
    (z_max : PySem.W.nsIn K mainGlobals "max" = some none)
    (z_repr : PySem.W.nsIn K mainGlobals "repr" = some none)
    (z_bool : PySem.W.nsIn K mainGlobals "bool" = some none)
    (z_isinstance : PySem.W.nsIn K mainGlobals "isinstance" = some none)
    (z_int : PySem.W.nsIn K mainGlobals "int" = some none)
    (z_all : PySem.W.nsIn K mainGlobals "all" = some none)
    (z_str : PySem.W.nsIn K mainGlobals "str" = some none)
    (z_abs : PySem.W.nsIn K mainGlobals "abs" = some none)
    (z_sum : PySem.W.nsIn K mainGlobals "sum" = some none)
    {t0 : Tok} (q_LAST_DATE : PySem.W.nsIn K mainGlobals "LAST_DATE" = some (some (.int 9999 t0)))
    {t1 : Tok} (q_LETTERS : PySem.W.nsIn K mainGlobals "LETTERS" = some (some (.str "abcdefghijklmnopqrstuvwxyz" t1)))
    {t2 : Tok} (q_MOST_LETTERS : PySem.W.nsIn K mainGlobals "MOST_LETTERS" = some (some (.int 8 t2)))
    : ∃ fd : FuncData, (∀ (s : Shared) (v : Value), BindsTo s fd ⟨[v], []⟩ [("_law_script", v)]) ∧ ∀ base : Heap, K.In base → base.Ns mainGlobals mg → FnOk l.prog w K mg base (L2.CX l.prog w) 3 fa fd ["_law_script"] (spM K 1 m_law) := by
  have e := hfa.symm.trans (PySem.W.mg_of X G a6)
  cases e
  let T : Tx K mg := { f_is_integer := f0, fd_is_integer := _, F_is_integer := fun_mk (st := s_is_integer) l0 c0 k0, g_is_integer := PySem.W.mg_of X G a0, b_is_integer := (fun_mk (st := s_is_integer) l0 c0 k0).binds (ps := ["value", "lowest", "highest"]) (fun _ _ _ _ _ _ us hl => match us, hl with | [_, _, _], _ => rfl), f__law_draw := f1, fd__law_draw := _, F__law_draw := fun_mk (st := s__law_draw) l1 c1 k1, g__law_draw := PySem.W.mg_of X G a1, b__law_draw := (fun_mk (st := s__law_draw) l1 c1 k1).binds (ps := ["_law_pool_here", "_law_many"]) (fun _ _ _ _ _ _ us hl => match us, hl with | [_, _], _ => rfl), f_is_date := f2, fd_is_date := _, F_is_date := fun_mk (st := s_is_date) l2 c2 k2, g_is_date := PySem.W.mg_of X G a2, b_is_date := (fun_mk (st := s_is_date) l2 c2 k2).binds (ps := ["value"]) (fun _ _ _ _ _ _ us hl => match us, hl with | [_], _ => rfl), f_is_word := f3, fd_is_word := _, F_is_word := fun_mk (st := s_is_word) l3 c3 k3, g_is_word := PySem.W.mg_of X G a3, b_is_word := (fun_mk (st := s_is_word) l3 c3 k3).binds (ps := ["value"]) (fun _ _ _ _ _ _ us hl => match us, hl with | [_], _ => rfl), f__law_pick := f4, fd__law_pick := _, F__law_pick := fun_mk (st := s__law_pick) l4 c4 k4, g__law_pick := PySem.W.mg_of X G a4, b__law_pick := (fun_mk (st := s__law_pick) l4 c4 k4).binds (ps := ["_law_pool_here", "_law_row"]) (fun _ _ _ _ _ _ us hl => match us, hl with | [_, _], _ => rfl), f__law_pool := f5, fd__law_pool := _, F__law_pool := fun_mk (st := s__law_pool) l5 c5 k5, g__law_pool := PySem.W.mg_of X G a5, b__law_pool := (fun_mk (st := s__law_pool) l5 c5 k5).binds (ps := ["_law_script", "_law_k"]) (fun _ _ _ _ _ _ us hl => match us, hl with | [_, _], _ => rfl), f_law := fa, fd_law := _, F_law := fun_mk (st := s_law) l6 c6 k6, g_law := PySem.W.mg_of X G a6, b_law := (fun_mk (st := s_law) l6 c6 k6).binds (ps := ["_law_script"]) (fun _ _ _ _ _ _ us hl => match us, hl with | [_], _ => rfl), z_range := PySem.W.mg_none_of X G z_range, z_len := PySem.W.mg_none_of X G z_len, z_min := PySem.W.mg_none_of X G z_min, z_max := PySem.W.mg_none_of X G z_max, z_repr := PySem.W.mg_none_of X G z_repr, z_bool := PySem.W.mg_none_of X G z_bool, z_isinstance := PySem.W.mg_none_of X G z_isinstance, z_int := PySem.W.mg_none_of X G z_int, z_all := PySem.W.mg_none_of X G z_all, z_str := PySem.W.mg_none_of X G z_str, z_abs := PySem.W.mg_none_of X G z_abs, z_sum := PySem.W.mg_none_of X G z_sum, k_LAST_DATE := ⟨_, PySem.W.mg_of X G q_LAST_DATE⟩, k_LETTERS := ⟨_, PySem.W.mg_of X G q_LETTERS⟩, k_MOST_LETTERS := ⟨_, PySem.W.mg_of X G q_MOST_LETTERS⟩ }
  exact ⟨T.fd_law, fun s v => .of_eq rfl, fun base _ _ => ok_law T⟩
end Mir.Lk01

namespace Mir.Lk01
open PySem PySem.Spec PyProof.Rows L2 Mir
def PoolOk (a b : Int) : Prop := 0 ≤ a ∧ 0 ≤ b ∧ b < 2147483647
theorem at20 (x y : D) : atI [x, y] 0 = some x := rfl
theorem at21 (x y : D) : atI [x, y] 1 = some y := rfl
theorem draw_spec (a b many : Int) (h : PoolOk a b) (hm : 0 < many) (hz : many.natAbs.log2 < 9000) : ∃ r a' b', m__law_draw [.b (.lst [.int a, .int b]), .v (.int many)] = some (.ok (.d (.int r)), [.b (.lst [.int a', .int b']), .v (.int many)]) ∧ PoolOk a' b' ∧ 0 ≤ r ∧ r < many := by
  unfold m__law_draw g__law_draw
  obtain ⟨h1, h2, h3⟩ := h
  by_cases ha : 0 < a
  · refine ⟨a % many, a / many, b, ?_, ⟨Int.ediv_nonneg h1 (Int.le_of_lt hm), h2, h3⟩, Int.emod_nonneg _ (by omega), Int.emod_lt_of_pos _ hm⟩
    simp [at20, at21, ha, oMod_i, oFdiv_i, hm, hz, kPI, kPI2, ixN, backs]
  · refine ⟨((b * 48271 + 11) % 2147483647 * ((b * 48271 + 11) % 2147483647)) % 2147483629 / 16 % many, a, (b * 48271 + 11) % 2147483647, ?_, ⟨h1, Int.emod_nonneg _ (by omega), Int.emod_lt_of_pos _ (by omega)⟩, Int.emod_nonneg _ (by omega), Int.emod_lt_of_pos _ hm⟩
    have q1 : -(2 ^ 64) < (b * 48271 + 11) % 2147483647 := by omega
    have q2 : (b * 48271 + 11) % 2147483647 < 2 ^ 64 := by omega
    have q3 : (16 : Nat).log2 < 9000 := by decide
    simp [at20, at21, ha, oMod_i, oFdiv_i, hm, hz, kPI, kPI2, ixN, backs, oMul_r, oMul_r _ _ q1 q2, q3]
theorem cut63 (ns : List Int) (h : ns.length ≤ 63) : cutD (ns.map D.int) none (some 63) = ns.map D.int := by
  unfold cutD
  rw [HT.sIx_none, show HT.sIx (ns.map D.int).length (ns.map D.int).length (some 63) = min 63 (ns.map D.int).length from HT.sIx_nat _ _ 63]
  simp
  have : min 63 ns.length = ns.length := by omega
  rw [this, ← List.map_take, List.take_length]
theorem pool_spec (ns : List Int) (k : Nat) (hl : ns.length ≤ 63) (hk : k ≤ 4) : ∃ a b, m__law_pool [.v (.frl (ns.map .int)), .v (.int k)] = some (.ok (.o (.lst [.int a, .int b])), [.v (.frl (ns.map .int)), .v (.int k)]) ∧ PoolOk a b := by
  unfold m__law_pool g__law_pool
  have q0 : -(2 ^ 64) < (k : Int) := by omega
  have q1 : (k : Int) < 2 ^ 64 := by omega
  have k0 := oMul_r (7919 * k) k q0 q1
  have p18 : oPow (.int 10) (.int 18) = some (.int (10 ^ 18)) := by rfl
  have one : ∀ s : Int, oMul (.int s) (.int 1) = some (.int s) := fun s => by rw [oMul_r _ _ (by omega) (by omega)]; simp
  have zero : ∀ s : Int, oMul (.int s) (.int 0) = some (.int 0) := fun s => by rw [oMul_r _ _ (by omega) (by omega)]; simp
  have nn : ∀ c : Int, 0 ≤ (if c < 0 then -c else c) := fun c => by split <;> omega
  have mm : ∀ x : Int, oMul (.int (x % 2147483647)) (.int (x % 2147483647)) = some (.int (x % 2147483647 * (x % 2147483647))) := fun x => oMul_r _ _ (by omega) (by omega)
  have pk : ∀ a x : Int, 0 ≤ a → PoolOk a (x % 2147483629) := fun a x h => ⟨h, Int.emod_nonneg _ (by omega), by have := Int.emod_lt_of_pos x (show (0 : Int) < 2147483629 by omega); omega⟩
  by_cases hc : (k : Int) < ns.length
  · have hk2 : k < ns.length := by omega
    have at1 : atI (ns.map D.int) (k : Int) = some (.int ns[k]) := by
      unfold atI ixN
      simp [hk2]
    simp [hc, at1, oMul_l, oMul_r, q0, q1, oMod_i]
    generalize hs : (if ns[k] < 0 then -ns[k] else ns[k]) = s
    have hs0 : 0 ≤ s := hs ▸ nn ns[k]
    by_cases h18 : (10 ^ 18 : Int) ≤ s
    · have h18' : (1000000000000000000 : Int) ≤ s := h18
      simp [k0, oMul_l, oMul_r, p18, h18', one, zero, mm, oMod_i, kL_some, backs]
      exact ⟨_, _, ⟨rfl, rfl⟩, pk _ _ hs0⟩
    · have h18' : ¬ (1000000000000000000 : Int) ≤ s := h18
      simp [k0, oMul_l, oMul_r, p18, h18', one, zero, mm, oMod_i, kL_some, backs]
      exact ⟨_, _, ⟨rfl, rfl⟩, pk _ _ (Int.le_refl 0)⟩
  · simp [hc, cut63 ns hl, oMul_l, oMul_r, q0, q1, oMod_i]
    generalize hs : (if 7 * ns.sum + (k : Int) < 0 then -(7 * ns.sum + (k : Int)) else 7 * ns.sum + (k : Int)) = s
    have hs0 : 0 ≤ s := hs ▸ nn _
    by_cases h18 : (10 ^ 18 : Int) ≤ s
    · have h18' : (1000000000000000000 : Int) ≤ s := h18
      simp [k0, oMul_l, oMul_r, p18, h18', one, zero, mm, oMod_i, kL_some, backs]
      exact ⟨_, _, ⟨rfl, rfl⟩, pk _ _ hs0⟩
    · have h18' : ¬ (1000000000000000000 : Int) ≤ s := h18
      simp [k0, oMul_l, oMul_r, p18, h18', one, zero, mm, oMod_i, kL_some, backs]
      exact ⟨_, _, ⟨rfl, rfl⟩, pk _ _ (Int.le_refl 0)⟩
end Mir.Lk01

namespace Mir.Lk01
open PySem PySem.Spec PyProof.Rows L2 Mir
def letters : Str := "abcdefghijklmnopqrstuvwxyz"
def isL (c : Nat) : Bool := decide (c ∈ letters.cps.toList)
def wordB (x : Str) : Bool := decide (1 ≤ x.length ∧ x.length ≤ 8) && x.cps.toList.all isL
theorem dBls_map {α : Type} (f : α → Bool) : ∀ l : List α, dBls (l.map fun a => D.bl (f a)) = some (l.map f)
  | [] => rfl
  | a :: l => by simp [dBls, dBls_map f l]
theorem isw_spec (x : Str) : m_is_word [.v (.str x)] = some (.ok (.d (.bl (wordB x))), [.v (.str x)]) := by
  unfold m_is_word g_is_word
  have i1 : oIsi (.str x) (.ty "str") = some (.bl true) := rfl
  by_cases h1 : (1 : Int) ≤ x.length
  · by_cases h2 : (x.length : Int) ≤ 8
    · have h1' : 1 ≤ x.length := by omega
      have h2' : x.length ≤ 8 := by omega
      obtain ⟨e', hc, he⟩ := cLoop_map (vs := [1]) (g := gSl 1) (el := e2 (eName 1) (eD (eRet (.str "abcdefghijklmnopqrstuvwxyz"))) fun x y => eOn2 x y oIn) (fun e => e = [some (.v (.str x)), none]) (fun d => match d with
        | .str z => match z.cps.toList with
          | [k] => .bl (isL k)
          | _ => .non
        | _ => .non) (signs x) [] (fun d hd e he => by
          subst he
          obtain ⟨c, hc, rfl⟩ := List.mem_map.mp hd
          refine ⟨_, [some (.v (.str x)), some (.v (.str ⟨#[c]⟩))], rfl, ?_, rfl⟩
          simp [oIn, oInS, isL, letters]) [some (.v (.str x)), none] rfl
      subst he
      have hs : (signs x).length ≤ sizeLine := by
        unfold signs
        simp
        exact small_le (by show x.length ≤ _; omega)
      have hb : (signs x).map (fun d => match d with
        | .str z => match z.cps.toList with
          | [k] => .bl (isL k)
          | _ => .non
        | _ => .non) = x.cps.toList.map fun c => D.bl (isL c) := by
        unfold signs
        rw [List.map_map]
        rfl
      rw [hb] at hc
      have ho : oAll (.lst (x.cps.toList.map fun c => D.bl (isL c))) = some (.bl (x.cps.toList.all isL)) := by
        show (match dBls (x.cps.toList.map fun c => D.bl (isL c)) with | some bs => some (D.bl (bs.all id)) | none => none) = _
        rw [dBls_map]
        simp [List.all_map]
      simp only [List.nil_append] at hc
      simp [i1, h1, h2, hc, hs, offAt, backs, ho, wordB, h1', h2']
    · have h2' : ¬ x.length ≤ 8 := by omega
      simp [i1, h1, h2, backs, wordB, h2']
  · have h1' : ¬ 1 ≤ x.length := by omega
    simp [i1, h1, backs, wordB, h1']
theorem pick_str (a b : Int) (s : Str) (h : PoolOk a b) (h0 : 0 < s.length) (h1 : s.length ≤ 1000) : ∃ c a' b', m__law_pick [.b (.lst [.int a, .int b]), .v (.str s)] = some (.ok (.d (.str ⟨#[c]⟩)), [.b (.lst [.int a', .int b']), .v (.str s)]) ∧ PoolOk a' b' ∧ c ∈ s.cps.toList := by
  obtain ⟨r, a', b', hd, ok, hr0, hr1⟩ := draw_spec a b s.length h (by omega) (by
    have : (s.length : Int).natAbs = s.length := rfl
    rw [this]
    by_cases hz : s.length = 0
    · omega
    · rw [Nat.log2_lt hz]
      exact Nat.lt_of_le_of_lt h1 (Nat.lt_of_lt_of_le (by decide : 1000 < 2 ^ 10) (Nat.pow_le_pow_right (by decide) (by decide))))
  have hs : s.cps.toList.length = s.length := by
    show s.cps.toList.length = s.cps.size
    simp
  have hrn : r.toNat < s.cps.toList.length := by omega
  have hat : atI s.cps.toList r = some (s.cps.toList[r.toNat]) := by
    unfold atI ixN
    rw [if_pos hr0, if_pos (by omega)]
    simp [hrn]
  refine ⟨s.cps.toList[r.toNat], a', b', ?_, ok, List.getElem_mem _⟩
  unfold m__law_pick g__law_pick
  have ho : oIx (.str s) (.int r) = some (.str ⟨#[s.cps.toList[r.toNat]]⟩) := by
    show (match atI s.cps.toList r with | some c => some (D.str ⟨#[c]⟩) | none => none) = _
    rw [hat]
  simp [hd, ho, backs]
def mkS (cs : List Nat) : Str := ⟨cs.toArray⟩
theorem mkS_len (cs : List Nat) : (mkS cs).length = cs.length := by
  show cs.toArray.size = _
  simp
theorem mkS_cps (cs : List Nat) : (mkS cs).cps.toList = cs := by simp [mkS]
theorem app_cps (x y : Str) : (x ++ y).cps.toList = x.cps.toList ++ y.cps.toList := by
  show (x.cps ++ y.cps).toList = _
  simp
theorem app_len (x y : Str) : (x ++ y).length = x.length + y.length := str_add_len x y
theorem len_cps (x : Str) : x.length = x.cps.toList.length := by
  show x.cps.size = _
  simp
theorem cut_cps (z : Str) (lo hi : Option Int) : (cutS z lo hi).cps.toList = (z.cps.toList.drop (HT.sIx z.length 0 lo)).take (HT.sIx z.length z.length hi - HT.sIx z.length 0 lo) := by
  unfold cutS
  simp
theorem wordB_iff (x : Str) : wordB x = true ↔ (1 ≤ x.cps.toList.length ∧ x.cps.toList.length ≤ 8) ∧ ∀ c ∈ x.cps.toList, isL c = true := by
  unfold wordB
  rw [← len_cps, Bool.and_eq_true, decide_eq_true_eq, List.all_eq_true]
theorem wordB_no (x : Str) (h : ¬ ((1 ≤ x.cps.toList.length ∧ x.cps.toList.length ≤ 8) ∧ ∀ c ∈ x.cps.toList, isL c = true)) : wordB x = false := by
  cases e : wordB x with
  | false => rfl
  | true => exact absurd ((wordB_iff x).mp e) h
theorem abc_len : ("abcdefgh" : Str).cps.toList.length = 8 := by decide
theorem abc_all : ∀ c ∈ ("abcdefgh" : Str).cps.toList, isL c = true := by decide
section
variable (cs : List Nat) (h1 : 1 ≤ cs.length) (h8 : cs.length ≤ 8) (hL : ∀ c ∈ cs, isL c = true)
include h1 h8 hL
theorem w1 : wordB (mkS cs) = true := (wordB_iff _).mpr (by rw [mkS_cps]; exact ⟨⟨h1, h8⟩, hL⟩)
theorem w2 : wordB (mkS cs ++ mkS cs ++ "abcdefgh") = false := wordB_no _ (by
  rw [app_cps, app_cps, List.length_append, List.length_append, mkS_cps, abc_len]
  omega)
theorem w3 : wordB (cutS (mkS cs ++ "abcdefgh") none (some 9)) = false := wordB_no _ (by
  have e : (mkS cs ++ "abcdefgh").length = cs.length + 8 := by rw [app_len, mkS_len]; rfl
  rw [cut_cps, HT.sIx_none, e, show HT.sIx (cs.length + 8) (cs.length + 8) (some 9) = min 9 (cs.length + 8) from HT.sIx_nat _ _ 9, List.drop_zero, List.length_take, ← len_cps, e]
  omega)
theorem w4 : wordB (cutS (mkS cs ++ "abcdefgh") none (some 8)) = true := (wordB_iff _).mpr (by
  have e : (mkS cs ++ "abcdefgh").length = cs.length + 8 := by rw [app_len, mkS_len]; rfl
  rw [cut_cps, HT.sIx_none, e, show HT.sIx (cs.length + 8) (cs.length + 8) (some 8) = min 8 (cs.length + 8) from HT.sIx_nat _ _ 8, List.drop_zero]
  refine ⟨?_, fun c hc => ?_⟩
  · rw [List.length_take, ← len_cps, e]
    omega
  · have := List.mem_of_mem_take hc
    rw [app_cps, mkS_cps] at this
    rcases List.mem_append.mp this with h | h
    · exact hL c h
    · exact abc_all c h)
theorem w5 (at' : Int) (z : Str) (hz : ∃ c ∈ z.cps.toList, isL c = false) : wordB (cutS (mkS cs) none (some at') ++ z ++ cutS (mkS cs) (some (at' + 1)) none) = false := wordB_no _ (by
  rintro ⟨_, h⟩
  obtain ⟨c, hc, he⟩ := hz
  have := h c (by rw [app_cps, app_cps]; simp only [List.mem_append]; exact .inl (.inr hc))
  rw [he] at this
  cases this)
end
theorem joinE : ∀ cs : List Nat, TL.joinL [] (cs.map fun c => [c]) = cs
  | [] => rfl
  | [c] => rfl
  | c :: d :: r => by
    show [c] ++ ([] ++ TL.joinL [] ((d :: r).map fun c => [c])) = _
    rw [joinE (d :: r)]
    rfl
theorem join_cs (cs : List Nat) : Txt.join "" (cs.map fun c => (⟨#[c]⟩ : Str)) = mkS cs := by
  have e := TL.tl_join "" (cs.map fun c => (⟨#[c]⟩ : Str))
  have e2 : (cs.map fun c => (⟨#[c]⟩ : Str)).map TL.tl = cs.map fun c => [c] := by
    rw [List.map_map]
    rfl
  rw [e2] at e
  refine TL.ext_tl ((congrArg TL.tl (TL.join_eq _ _)).trans (e.trans ?_))
  show TL.joinL [] _ = _
  rw [joinE]
  exact (mkS_cps cs).symm
theorem dStrs_cs : ∀ cs : List Nat, dStrs (cs.map fun c => D.str ⟨#[c]⟩) = some (cs.map fun c => (⟨#[c]⟩ : Str))
  | [] => rfl
  | c :: r => by simp [dStrs, dStrs_cs r]
theorem oJoin_cs (cs : List Nat) (h : cs.length ≤ 1000) : oJoin (.str "") (.lst (cs.map fun c => D.str ⟨#[c]⟩)) = some (.str (mkS cs)) := by
  show (match dStrs (cs.map fun c => D.str ⟨#[c]⟩) with
      | some ys => if (ys.map fun y : Str => y.length).sum + ys.length * ("" : Str).length ≤ 16777216 then if (Txt.join "" ys).length ≤ sizeLine then some (D.str (Txt.join "" ys)) else none else none
      | none => none) = _
  rw [dStrs_cs]
  dsimp only
  rw [join_cs, if_pos, if_pos]
  · rw [mkS_len]; exact small_le (by omega)
  · have : ((cs.map fun c => (⟨#[c]⟩ : Str)).map fun y : Str => y.length).sum = cs.length := by
      rw [List.map_map]
      induction cs with
      | nil => rfl
      | cons c r ih =>
        have := ih (by simp at h; omega)
        rw [List.map_cons, List.sum_cons, this, List.length_cons]
        show 1 + _ = _
        omega
    rw [this]
    show cs.length + _ * 0 ≤ _
    omega
theorem cs_of : ∀ (xs : List D), (∀ x ∈ xs, ∃ c, x = .str ⟨#[c]⟩ ∧ isL c = true) → ∃ cs : List Nat, xs = cs.map (fun c => D.str ⟨#[c]⟩) ∧ ∀ c ∈ cs, isL c = true
  | [], _ => ⟨[], rfl, by simp⟩
  | x :: xs, h => by
    obtain ⟨c, rfl, hc⟩ := h x List.mem_cons_self
    obtain ⟨cs, rfl, hcs⟩ := cs_of xs fun y hy => h y (List.mem_cons_of_mem _ hy)
    exact ⟨c :: cs, rfl, fun d hd => by rcases List.mem_cons.mp hd with rfl | hd; exact hc; exact hcs d hd⟩
abbrev F (x : Option Sl) : Prop := kIsB (some x) = false
end Mir.Lk01

namespace Mir.Lk01
open PySem PySem.Spec PyProof.Rows L2 Mir
theorem isw_no (d : D) (h : ∀ x, d ≠ .str x) (hs : d = .non ∨ (∃ i, d = .int i) ∨ (∃ b, d = .bl b) ∨ (∃ l, d = .tup l) ∨ (∃ l, d = .lst l) ∨ ∃ l, d = .dK l) : m_is_word [.v d] = some (.ok (.d (.bl false)), [.v d]) := by
  rcases hs with rfl | ⟨i, rfl⟩ | ⟨b, rfl⟩ | ⟨l, rfl⟩ | ⟨l, rfl⟩ | ⟨l, rfl⟩ <;> rfl
theorem isi_int (i lo hi : Int) : m_is_integer [.v (.int i), .v (.int lo), .v (.int hi)] = some (.ok (.d (.bl (decide (lo ≤ i) && decide (i ≤ hi)))), [.v (.int i), .v (.int lo), .v (.int hi)]) := by
  unfold m_is_integer g_is_integer
  have h1 : oIsi (.int i) (.ty "int") = some (.bl true) := rfl
  have h2 : oIsi (.int i) (.ty "bool") = some (.bl false) := rfl
  by_cases a : lo ≤ i
  · simp [h1, h2, a, backs]
  · simp [h1, h2, a, backs]
theorem dates : m_is_date [.v (.int 0)] = some (.ok (.d (.bl true)), [.v (.int 0)]) ∧ m_is_date [.v (.int 9999)] = some (.ok (.d (.bl true)), [.v (.int 9999)]) ∧
  m_is_date [.v (.int (-1))] = some (.ok (.d (.bl false)), [.v (.int (-1))]) ∧ m_is_date [.v (.int 10000)] = some (.ok (.d (.bl false)), [.v (.int 10000)]) ∧
  m_is_date [.v (.bl true)] = some (.ok (.d (.bl false)), [.v (.bl true)]) ∧ m_is_date [.v .non] = some (.ok (.d (.bl false)), [.v .non]) ∧ m_is_date [.v (.str "5")] = some (.ok (.d (.bl false)), [.v (.str "5")]) :=
  ⟨rfl, rfl, rfl, rfl, rfl, rfl, rfl⟩
theorem odds : m_is_integer [.v .non, .v (.int 0), .v (.int 5)] = some (.ok (.d (.bl false)), [.v .non, .v (.int 0), .v (.int 5)]) ∧ m_is_integer [.v (.bl true), .v (.int 0), .v (.int 5)] = some (.ok (.d (.bl false)), [.v (.bl true), .v (.int 0), .v (.int 5)]) ∧
  m_is_integer [.v (.bl false), .v (.int 0), .v (.int 5)] = some (.ok (.d (.bl false)), [.v (.bl false), .v (.int 0), .v (.int 5)]) ∧ m_is_integer [.v (.str "1"), .v (.int 0), .v (.int 5)] = some (.ok (.d (.bl false)), [.v (.str "1"), .v (.int 0), .v (.int 5)]) ∧
  m_is_integer [.v (.tup [.int 1]), .v (.int 0), .v (.int 5)] = some (.ok (.d (.bl false)), [.v (.tup [.int 1]), .v (.int 0), .v (.int 5)]) := ⟨rfl, rfl, rfl, rfl, rfl⟩
theorem p30 : oPow (.int 10) (.int 30) = some (.int (10 ^ 30)) := rfl
/-- the slots of the law's def -/
def P (ns : List Int) (e : ME) : Prop := ∃ x2 x3 x4 x5 x6 x7 x8 x9 x10 x11 : Option Sl, e = [some (.v (.frl (ns.map .int))), some (.v (.str letters)), x2, x3, x4, x5, x6, x7, x8, x9, x10, x11, none] ∧
  F x2 ∧ F x3 ∧ F x4 ∧ F x5 ∧ F x6 ∧ F x7 ∧ F x8 ∧ F x9 ∧ F x10 ∧ F x11
theorem letters_len : letters.length = 26 := by decide
theorem bad (z : Str) (hz : z = "A" ∨ z = " " ∨ z = "1" ∨ z = "-" ∨ z = "\n" ∨ z = "_") : (∃ c ∈ z.cps.toList, isL c = false) ∧ z.length ≤ 10000 := by
  rcases hz with rfl | rfl | rfl | rfl | rfl | rfl <;> exact ⟨by decide, by decide⟩
theorem at_log (n : Nat) (h : n ≤ 8) : ((n : Int)).natAbs.log2 < 9000 := by
  have : ((n : Int)).natAbs = n := rfl
  rw [this]
  by_cases hz : n = 0
  · subst hz; decide
  · have := (Nat.log2_lt (k := 4) hz).mpr (by omega)
    omega
theorem body (ns : List Int) (hl : ns.length ≤ 63) (k : Nat) (hk : k ≤ 3) : ∀ e, P ns e → ∃ e1 e2, gSl 2 (.int k) e = some e1 ∧ l_law_5 e1 = some (.nx, e2) ∧ P ns e2 := by
  rintro e ⟨x2, x3, x4, x5, x6, x7, x8, x9, x10, x11, rfl, f2, f3, f4, f5, f6, f7, f8, f9, f10, f11⟩
  simp only [F] at f2 f3 f4 f5 f6 f7 f8 f9 f10 f11
  obtain ⟨a0, b0, hp, ok0⟩ := pool_spec ns k hl (by omega)
  obtain ⟨r, a1, b1, hd, ok1, hr0, hr1⟩ := draw_spec a0 b0 8 ok0 (by decide) (by decide)
  refine ⟨[some (.v (.frl (ns.map .int))), some (.v (.str letters)), some (.v (.int k)), x3, x4, x5, x6, x7, x8, x9, x10, x11, none], ?_⟩
  -- the word's signs
  obtain ⟨xs, e', hcl, ⟨a2, b2, he', ok2⟩, hxl, hxs⟩ := cLoop_all (vs := [12]) (g := gSl 12) (el := eFz (eCall m__law_pick (eCons (eName 3) (eCons (eName 1) (eRet [])))))
    (fun e => ∃ a b, e = [some (.v (.frl (ns.map .int))), some (.v (.str letters)), some (.v (.int k)), some (.o (.lst [.int a, .int b])), x4, x5, x6, x7, x8, x9, x10, x11, none] ∧ PoolOk a b)
    (fun _ x => ∃ c, x = .str ⟨#[c]⟩ ∧ isL c = true) (rng 0 (1 + r).toNat) [] (fun d hd e he => by
      obtain ⟨a, b, rfl, ok⟩ := he
      obtain ⟨c, a', b', hpk, ok', hc⟩ := pick_str a b letters ok (by decide) (by decide)
      refine ⟨_, .str ⟨#[c]⟩, [some (.v (.frl (ns.map .int))), some (.v (.str letters)), some (.v (.int k)), some (.o (.lst [.int a', .int b'])), x4, x5, x6, x7, x8, x9, x10, x11, some (.v d)], rfl, ?_, ⟨a', b', rfl, ok'⟩, c, rfl, ?_⟩
      · simp [hpk]
      · simpa [isL] using hc) [some (.v (.frl (ns.map .int))), some (.v (.str letters)), some (.v (.int k)), some (.o (.lst [.int a1, .int b1])), x4, x5, x6, x7, x8, x9, x10, x11, none] ⟨a1, b1, rfl, ok1⟩
  obtain ⟨cs, rfl, hcs⟩ := cs_of xs fun x hx => by
    obtain ⟨d, _, h⟩ := hxs x hx
    exact h
  subst he'
  have hlen : cs.length = (1 + r).toNat := by
    have : (rng 0 (1 + r).toNat).length = (1 + r).toNat := by simp [rng]
    rw [← this, ← hxl]
    simp
  have h1 : 1 ≤ cs.length := by omega
  have h8 : cs.length ≤ 8 := by omega
  have hj := oJoin_cs cs (by omega)
  obtain ⟨r2, a3, b3, hd2, ok3, hr20, hr21⟩ := draw_spec a2 b2 cs.length ok2 (by omega) (at_log _ h8)
  obtain ⟨T, hT⟩ : ∃ T : Int, T = 10 ^ 30 := ⟨_, rfl⟩
  have p30 : oPow (.int 10) (.int 30) = some (.int T) := by rw [hT]; rfl
  obtain ⟨r3, a4, b4, hd3, ok4, hr30, hr31⟩ := draw_spec a3 b3 (2 * T) ok3 (by rw [hT]; decide) (by rw [hT]; decide)
  have hrg : (-(2 ^ 62) : Int) ≤ 1 + r ∧ 1 + r < 2 ^ 62 := by omega
  have hrl : (rng 0 (1 + r).toNat).length ≤ sizeLine := by
    simp only [rng, List.length_map, List.length_range]
    exact small_le (by omega)
  have abc : ("abcdefgh" : Str).length = 8 := by decide
  have ml := mkS_len cs
  have A1 := oAdd_ok (mkS cs) (mkS cs) (by omega) (by omega)
  have A2 := oAdd_ok (mkS cs ++ mkS cs) "abcdefgh" (by rw [app_len]; omega) (by decide)
  have A3 := oAdd_ok (mkS cs) "abcdefgh" (by omega) (by decide)
  have A4 : ∀ z : Str, (z = "A" ∨ z = " " ∨ z = "1" ∨ z = "-" ∨ z = "\n" ∨ z = "_") → oAdd (.str (cutS (mkS cs) none (some r2))) (.str z) = some (.str (cutS (mkS cs) none (some r2) ++ z)) := fun z hz =>
    oAdd_ok _ _ (Nat.le_trans (cutS_length _ _ _) (by omega)) (bad z hz).2
  have A5 : ∀ z : Str, (z = "A" ∨ z = " " ∨ z = "1" ∨ z = "-" ∨ z = "\n" ∨ z = "_") → oAdd (.str (cutS (mkS cs) none (some r2) ++ z)) (.str (cutS (mkS cs) (some (r2 + 1)) none)) = some (.str (cutS (mkS cs) none (some r2) ++ z ++ cutS (mkS cs) (some (r2 + 1)) none)) := fun z hz =>
    oAdd_ok _ _ (by rw [app_len]; have := cutS_length (mkS cs) none (some r2); have : z.length ≤ 1 := (by rcases hz with rfl | rfl | rfl | rfl | rfl | rfl <;> decide); omega) (Nat.le_trans (cutS_length _ _ _) (by omega))
  have B1 := w1 cs h1 h8 hcs
  have B2 := w2 cs h1 h8 hcs
  have B3 := w3 cs h1 h8 hcs
  have B4 := w4 cs h1 h8 hcs
  have B5 : ∀ z : Str, (z = "A" ∨ z = " " ∨ z = "1" ∨ z = "-" ∨ z = "\n" ∨ z = "_") → wordB (cutS (mkS cs) none (some r2) ++ z ++ cutS (mkS cs) (some (r2 + 1)) none) = false := fun z hz => w5 cs h1 h8 hcs r2 z (bad z hz).1
  have Z0 : wordB "" = false := by decide
  have N1 := isw_no .non (by simp) (by simp)
  have N2 := isw_no (.int 5) (by simp) (by simp)
  have N3 := isw_no (.bl true) (by simp) (by simp)
  have N4 := isw_no (.tup [.str "a"]) (by simp) (by simp)
  have N5 := isw_no (.lst [.str "a"]) (by simp) (by simp)
  have N6 := isw_no (.dK []) (by simp) (by simp)
  obtain ⟨D1, D2, D3, D4, D5, D6, D7⟩ := dates
  obtain ⟨O1, O2, O3, O4, O5⟩ := odds
  have M1 : oMul (.int 2) (.int T) = some (.int (2 * T)) := oMul_l _ _ (by decide) (by decide)
  suffices h : ∃ e2, l_law_5 [some (.v (.frl (ns.map .int))), some (.v (.str letters)), some (.v (.int k)), x3, x4, x5, x6, x7, x8, x9, x10, x11, none] = some (.nx, e2) ∧ P ns e2 by
    obtain ⟨e2, h, hP⟩ := h
    exact ⟨e2, by simp [f2], h, hP⟩
  clear hT
  unfold l_law_5
  simp only [sSeq_k]
  have hr := gRng1_ok (1 + r) (by omega) (by omega)
  simp [hp, hd, hr, hrl, hcl, hj, f3, f4, f5, isw_spec, A1, A2, A3, B1, B2, B3, B4, hd2, ml, kL_some]
  clear hp hd hcl hj
  simp [f6, f7, l_law_4, A4, A5, B5, isw_spec, l_law_3, Z0, N1, N2, N3, N4, N5, N6, kL_some, kT_some]
  simp [f8, f9, f10, kL_some, kT_some, oAdd_l, small_le, l_law_2, D1, D2, D3, D4, D5, D6, D7, neTT, neFF]
  have q1 : ¬ (r3 - T ≤ r3 - T - 1) := by omega
  have q2 : r3 - T ≤ r3 - T + 1 := by omega
  have q3 : r3 - T ≤ r3 - T + 2 := by omega
  have q4 : r3 - T ≤ r3 - T + 3 := by omega
  have q5 : r3 - T + 1 ≤ r3 - T + 2 := by omega
  have q6 : ¬ (r3 - T + 3 ≤ r3 - T + 2) := by omega
  simp [p30, M1, hd3, f11, kL_some]
  simp [l_law_1, isi_int, q1, q2, q3, q4, q5, q6, neTT, neFF, kL_some, l_law_0, O1, O2, O3, O4, O5, kT_some]
  simp only [P]
  exact ⟨_, _, _, _, _, _, _, _, _, _, rfl, rfl, rfl, rfl, rfl, rfl, rfl, rfl, rfl, rfl, rfl⟩
theorem loopN (n : Nat) : ∃ m : Nat, (if (if 4 < (n : Int) then 4 else (n : Int)) > 1 then (if 4 < (n : Int) then 4 else (n : Int)) else 1) = (m : Int) ∧ m ≤ 4 := by
  by_cases h : n ≤ 1
  · refine ⟨1, ?_, by omega⟩
    rw [if_neg (show ¬ (4 : Int) < n by omega), if_neg (by omega)]
    rfl
  · by_cases h4 : n ≤ 4
    · refine ⟨n, ?_, h4⟩
      rw [if_neg (show ¬ (4 : Int) < n by omega), if_pos (by omega)]
    · refine ⟨4, ?_, by omega⟩
      rw [if_pos (show (4 : Int) < n by omega), if_pos (by omega)]
      rfl
theorem hLs : ("abcdefghijklmnopqrstuvwxyz" : Str) = letters := rfl
theorem le1 (ns : List Int) (hl : ns.length ≤ 63) (m : Nat) (hm4 : m ≤ 4) : ∃ e', sLoop (gSl 2) l_law_5 (rng 0 m) [some (.v (.frl (ns.map .int))), some (.v (.str letters)), none, none, none, none, none, none, none, none, none, none, none] = some (.nx, e') := by
  obtain ⟨e', hL, hP⟩ := sLoop_all (g := gSl 2) (b := l_law_5) (P ns) (rng 0 m) (fun d hd e he => by
    simp only [rng, List.mem_map, List.mem_range] at hd
    obtain ⟨k, hk, rfl⟩ := hd
    rw [Int.zero_add]
    obtain ⟨e1, e2, q1, q2, q3⟩ := body ns hl k (by omega) e he
    exact ⟨e1, .nx, e2, q1, q2, .inl rfl, q3⟩) [some (.v (.frl (ns.map .int))), some (.v (.str letters)), none, none, none, none, none, none, none, none, none, none, none] ⟨none, none, none, none, none, none, none, none, none, none, rfl, rfl, rfl, rfl, rfl, rfl, rfl, rfl, rfl, rfl, rfl⟩
  exact ⟨e', hL⟩
theorem law_eval (ns : List Int) (hl : ns.length ≤ 63) (hb : ∀ z ∈ ns, Builtin.Int.intBits z ≤ 1048576) : ∃ as', m_law [.v (.frl (ns.map .int))] = some (.ok (.d (.bl true)), as') := by
  obtain ⟨m, hm, hm4⟩ := loopN ns.length
  obtain ⟨e', hL⟩ := le1 ns hl m hm4
  have hr := gRng1_ok (m : Int) (by omega) (by omega)
  unfold m_law g_law
  refine ⟨backs [.v (.frl (ns.map .int))] e', ?_⟩
  rw [hLs]
  simp -implicitDefEqProofs [hm, hr, hL]
end Mir.Lk01

open PySem PySem.W PyProof.Rows
set_option maxHeartbeats 0 in
theorem PySem.Challenge.cw_standinparts_k01_words_and_dates_holds : PySem.Challenge.rw_standinparts_k01_words_and_dates.Holds := by
  w_on; o_law; k_head; (case hw => w_witness2)
  k_fill
  refine L2.walk_ofB (l := PySem.Challenge.rw_standinparts_k01_words_and_dates) (n := 63) (k := 3) (x := "_law_script") (CX := fun w => L2.CX (PySem.Challenge.rw_standinparts_k01_words_and_dates).prog w) (sp := fun w => Mir.spM _ 1 Mir.Lk01.m_law) rfl (by decide) rfl ⟨rfl, by decide, by decide⟩ (fun w h Y => PySem.W.kIn_of Y) ?F (fun _ H a ns hl hb _ hS => Mir.law_done (Mir.Lk01.law_eval ns hl hb) hl hS) (fun _ _ _ _ _ h => Mir.cx_none h)
  case F =>
    intro w mg fa h KX G hmg
    refine' Mir.Lk01.all_mk KX G hmg ?a0 ?l0 ?c0 ?k0 ?a1 ?l1 ?c1 ?k1 ?a2 ?l2 ?c2 ?k2 ?a3 ?l3 ?c3 ?k3 ?a4 ?l4 ?c4 ?k4 ?a5 ?l5 ?c5 ?k5 ?a6 ?l6 ?c6 ?k6 ?z_range ?z_len ?z_min ?z_max ?z_repr ?z_bool ?z_isinstance ?z_int ?z_all ?z_str ?z_abs ?z_sum ?q_LAST_DATE ?q_LETTERS ?q_MOST_LETTERS
    (case a0 => k_is); (case l0 => k_is); (case c0 => k_is); (case k0 => k_is); (case a1 => k_is); (case l1 => k_is); (case c1 => k_is); (case k1 => k_is); (case a2 => k_is); (case l2 => k_is); (case c2 => k_is); (case k2 => k_is); (case a3 => k_is); (case l3 => k_is); (case c3 => k_is); (case k3 => k_is); (case a4 => k_is); (case l4 => k_is); (case c4 => k_is); (case k4 => k_is); (case a5 => k_is); (case l5 => k_is); (case c5 => k_is); (case k5 => k_is); (case a6 => k_is); (case l6 => k_is); (case c6 => k_is); (case k6 => k_is); (case z_range => k_is); (case z_len => k_is); (case z_min => k_is); (case z_max => k_is); (case z_repr => k_is); (case z_bool => k_is); (case z_isinstance => k_is); (case z_int => k_is); (case z_all => k_is); (case z_str => k_is); (case z_abs => k_is); (case z_sum => k_is); (case q_LAST_DATE => k_is); (case q_LETTERS => k_is); (case q_MOST_LETTERS => k_is)
