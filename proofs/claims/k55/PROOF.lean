import PyProof.Rows.All
import Wide.All
import OpenK.AllK
import Wide.FinOn
import HandS.ForMost
import HandS.ForExc
import HandS.Deep
import HandS.TupAny
import HandS.Zip
import HandS.Star
import HandS.IsInst
import HandS.SortOrd
import HandS.SortRule
import KE.KSortTup
import HandS.SetFor
import HandS.TupSets
import KE.SortData
import HandS.ExcOwn
import HandS.ExcValue
import HandS.Style
import HandS.Small
import HandS.Conv
import HandS.More
import KE.KDictPairs
import HandS.Strs
import KE.GoesMore
import KE.KItemsList
import KE.KDictZip
import HandS.DictComp
import KE.KDictCopyH
import HandS.DictTup
import HandS.Lambda
import HandS.WordsExc
import HandS.Wide
import HandS.WideBits
import HandS.TryOnly
import KE.SortKeyHeap
import HandS.Exc
import HandS.TupLe
import HandS.Flow
import HandS.EndTab
import KE.KNestM
import HandS.ExcIs
import KE.KLam
import PySem.Challenge.RW_oldornew_k55_whole_bits_that_are_right
set_option Elab.async false
set_option linter.all false
set_option maxRecDepth 100000
set_option maxHeartbeats 40000000
/-! A layer over HandS: what is known of slots and values as data, without addresses.
    F: what others own; B: the part of the heap that is data and never changes; H: the whole. -/
namespace J
open PySem PySem.Spec L2

/-! ### abstract values -/
/-- what is true of a value, by the data part of the heap alone; it stays as that part grows -/
structure AV where
  p : Hp → V → Prop
  mono : ∀ {B B' : Hp} {v : V}, Same B B' → p B v → p B' v
/-- what is true of a mutable thing: v the value, R the addresses it owns -/
structure MV where
  p : Hp → Hp → V → List Addr → Prop
  mono : ∀ {B B' H H' : Hp} {v : V} {R : List Addr}, Same B B' → (∀ a ∈ R, H' a = H a) → p B H v R → p B' H' v R
inductive Cell where
  | val (A : AV)
  | mut (M : MV)
abbrev DSt := List (Option Cell)
def cellOk (B H : Hp) (v : V) (R : List Addr) : Cell → Prop
  | .val A => A.p B v
  | .mut M => M.p B H v R
theorem cellOk.mono {B B' H H' : Hp} {v : V} {R : List Addr} (s : Same B B') (k : ∀ a ∈ R, H' a = H a) : ∀ {c : Cell}, cellOk B H v R c → cellOk B' H' v R c
  | .val A, h => A.mono s h
  | .mut M, h => M.mono s k h

structure EnvR (F B H : Hp) (σ : L2.St) (δ : DSt) (Rg : Nat → List Addr) : Prop where
  bh : Same B H
  fr : ∀ a o, F a = some o → H a = some o ∧ B a = none
  len : σ.length = δ.length
  sl : ∀ (i : Nat) (c : Cell), δ[i]? = some (some c) → ∃ v, σ[i]? = some (some v) ∧ cellOk B H v (Rg i) c
  rg : ∀ i a, a ∈ Rg i → B a = none ∧ H a ≠ none ∧ F a = none
  dj : ∀ i j a, a ∈ Rg i → a ∈ Rg j → i = j
  ft : ∀ a xs, F a ≠ some (.tup xs)
  rt : ∀ i a xs, a ∈ Rg i → H a ≠ some (.tup xs)
/-- no tuple -/
def NotT (o : HO) : Prop := ∀ xs, o ≠ .tup xs
def Env (F B H : Hp) (σ : L2.St) (δ : DSt) : Prop := ∃ Rg, EnvR F B H σ δ Rg

theorem same_upd {H : Hp} {p : Addr} {o : HO} (h : H p = none) : Same H (upd H p o) := fun b x e => by
  rw [upd_ne (ne_of_none e h)]
  exact e
theorem upd_none {H : Hp} {p a : Addr} {o : HO} (h : upd H p o a = none) : a ≠ p ∧ H a = none := by
  by_cases e : a = p
  · subst e
    rw [upd_same] at h
    cases h
  · rw [upd_ne e] at h
    exact ⟨e, h⟩
theorem none_of_same {B H : Hp} {p : Addr} (s : Same B H) (h : H p = none) : B p = none := s.free h

section
variable {F B B' H H' : Hp} {σ : L2.St} {δ : DSt} {i : Nat} {v : V} {A : AV} {p : Addr} {o : HO}
theorem Env.bh (E : Env F B H σ δ) : Same B H := let ⟨_, e⟩ := E; e.bh
theorem Env.len (E : Env F B H σ δ) : σ.length = δ.length := let ⟨_, e⟩ := E; e.len
theorem Env.fr (E : Env F B H σ δ) : ∀ a o, F a = some o → H a = some o ∧ B a = none := let ⟨_, e⟩ := E; e.fr
theorem Env.val (E : Env F B H σ δ) (h : δ[i]? = some (some (.val A))) : ∃ v, σ[i]? = some (some v) ∧ A.p B v := by
  obtain ⟨_, e⟩ := E
  exact e.sl i _ h
/-- new data is laid -/
theorem Env.laid (E : Env F B H σ δ) (hp : H p = none) : Env F (upd B p o) (upd H p o) σ δ := by
  obtain ⟨Rg, e⟩ := E
  have hB : B p = none := e.bh.free hp
  refine ⟨Rg, ⟨fun a x h => ?_, fun a x h => ?_, e.len, fun i c h => ?_, fun i a h => ?_, e.dj, e.ft, fun i a xs h => by
    have q : a ≠ p := fun z => by
      have := (e.rg i a h).2.1
      rw [z] at this
      exact this hp
    rw [upd_ne q]
    exact e.rt i a xs h⟩⟩
  · by_cases q : a = p
    · subst q
      rw [upd_same] at h ⊢
      exact h
    · rw [upd_ne q] at h ⊢
      exact e.bh a x h
  · obtain ⟨h1, h2⟩ := e.fr a x h
    have q : a ≠ p := ne_of_none h1 hp
    rw [upd_ne q, upd_ne q]
    exact ⟨h1, h2⟩
  · obtain ⟨v, h1, h2⟩ := e.sl i c h
    refine ⟨v, h1, h2.mono (same_upd hB) fun a ha => ?_⟩
    have q : a ≠ p := fun z => by
      have := (e.rg i a ha).2.1
      rw [z] at this
      exact this hp
    rw [upd_ne q]
  · obtain ⟨h1, h2, h3⟩ := e.rg i a h
    have q : a ≠ p := fun z => by
      rw [z] at h2
      exact h2 hp
    rw [upd_ne q, upd_ne q]
    exact ⟨h1, h2, h3⟩
/-- a slot gets data -/
theorem Env.set (E : Env F B H σ δ) (i : Nat) (h : A.p B v) : Env F B H (σ.set i (some v)) (δ.set i (some (.val A))) := by
  obtain ⟨Rg, e⟩ := E
  refine ⟨Rg, ⟨e.bh, e.fr, by rw [List.length_set, List.length_set]; exact e.len, fun j c hj => ?_, e.rg, e.dj, e.ft, e.rt⟩⟩
  by_cases q : i = j
  · subst q
    have hl : i < δ.length := by
      by_cases z : i < δ.length
      · exact z
      · rw [List.getElem?_eq_none (by rw [List.length_set]; omega)] at hj
        cases hj
    rw [List.getElem?_set_self hl] at hj
    cases hj
    exact ⟨v, by rw [List.getElem?_set_self (by rw [e.len]; exact hl)], h⟩
  · rw [List.getElem?_set_ne q] at hj
    obtain ⟨u, h1, h2⟩ := e.sl j c hj
    exact ⟨u, by rw [List.getElem?_set_ne q]; exact h1, h2⟩
/-- less is known -/
theorem Env.weak {δ' : DSt} (E : Env F B H σ δ) (hl : δ'.length = δ.length) (h : ∀ (i : Nat) (c : Cell), δ'[i]? = some (some c) → δ[i]? = some (some c)) : Env F B H σ δ' := by
  obtain ⟨Rg, e⟩ := E
  exact ⟨Rg, ⟨e.bh, e.fr, by rw [hl]; exact e.len, fun i c hi => e.sl i c (h i c hi), e.rg, e.dj, e.ft, e.rt⟩⟩
/-- slots forgotten, in both -/
def dwipe (δ : DSt) : List Nat → DSt
  | [] => δ
  | v :: vs => (dwipe δ vs).set v none
theorem Env.wipe (E : Env F B H σ δ) : ∀ vs : List Nat, Env F B H (L2.wipe σ vs) (dwipe δ vs)
  | [] => E
  | w :: vs => by
    obtain ⟨Rg, e⟩ := Env.wipe E vs
    refine ⟨Rg, ⟨e.bh, e.fr, ?_, fun j c hj => ?_, e.rg, e.dj, e.ft, e.rt⟩⟩
    · show ((L2.wipe σ vs).set w none).length = ((dwipe δ vs).set w none).length
      rw [List.length_set, List.length_set]
      exact e.len
    · have hj' : ((dwipe δ vs).set w none)[j]? = some (some c) := hj
      by_cases q : w = j
      · subst q
        by_cases z : w < (dwipe δ vs).length
        · rw [List.getElem?_set_self z] at hj'
          cases hj'
        · rw [List.getElem?_eq_none (by rw [List.length_set]; omega)] at hj'
          cases hj'
      · rw [List.getElem?_set_ne q] at hj'
        obtain ⟨u, h1, h2⟩ := e.sl j c hj'
        exact ⟨u, by show ((L2.wipe σ vs).set w none)[j]? = _; rw [List.getElem?_set_ne q]; exact h1, h2⟩
/-- a callee's frame: what is no data -/
def rest (B H : Hp) : Hp := fun a => if B a = none then H a else none
theorem rest_some {a : Addr} (h : rest B H a = some o) : H a = some o ∧ B a = none := by
  unfold rest at h
  by_cases q : B a = none
  · rw [if_pos q] at h
    exact ⟨h, q⟩
  · rw [if_neg q] at h
    cases h
theorem rest_of {a : Addr} (h : H a = some o) (q : B a = none) : rest B H a = some o := by
  unfold rest
  rw [if_pos q]
  exact h
/-- behind a step that leaves all that is no data -/
theorem Env.step (E : Env F B H σ δ) (s : Same B B') (s' : Same B' H') (k : ∀ a o, H a = some o → B a = none → H' a = some o ∧ B' a = none) : Env F B' H' σ δ := by
  obtain ⟨Rg, e⟩ := E
  refine ⟨Rg, ⟨s', fun a x h => ?_, e.len, fun i c h => ?_, fun i a h => ?_, e.dj, e.ft, fun i a xs h => by
    obtain ⟨q1, q2, q3⟩ := e.rg i a h
    cases q : H a with
    | none => exact absurd q q2
    | some x =>
      rw [(k a x q q1).1, ← q]
      exact e.rt i a xs h⟩⟩
  · obtain ⟨h1, h2⟩ := e.fr a x h
    exact k a x h1 h2
  · obtain ⟨u, h1, h2⟩ := e.sl i c h
    refine ⟨u, h1, h2.mono s fun a ha => ?_⟩
    obtain ⟨q1, q2, q3⟩ := e.rg i a ha
    cases q : H a with
    | none => exact absurd q q2
    | some x => exact (k a x q q1).1
  · obtain ⟨q1, q2, q3⟩ := e.rg i a h
    cases q : H a with
    | none => exact absurd q q2
    | some x =>
      obtain ⟨z1, z2⟩ := k a x q q1
      exact ⟨z2, (fun z => by rw [z1] at z; cases z), q3⟩
/-- something owned beside the slots is guarded -/
theorem ft_upd {F : Hp} {p : Addr} {o : HO} (ft : ∀ a xs, F a ≠ some (.tup xs)) (nt : NotT o) : ∀ a xs, upd F p o a ≠ some (.tup xs) := fun a xs z => by
  by_cases q : a = p
  · subst q
    rw [upd_same] at z
    exact nt xs (Option.some.inj z)
  · rw [upd_ne q] at z
    exact ft a xs z
theorem Env.guard (E : Env F B H σ δ) (hp : H p = some o) (hB : B p = none) (hR : ∀ Rg, EnvR F B H σ δ Rg → ∀ i, p ∉ Rg i) (nt : NotT o := by exact fun _ z => nomatch z) : Env (upd F p o) B H σ δ := by
  obtain ⟨Rg, e⟩ := E
  refine ⟨Rg, ⟨e.bh, fun a x h => ?_, e.len, e.sl, fun i a h => ?_, e.dj, ft_upd e.ft nt, e.rt⟩⟩
  · by_cases q : a = p
    · subst q
      rw [upd_same] at h
      cases h
      exact ⟨hp, hB⟩
    · rw [upd_ne q] at h
      exact e.fr a x h
  · obtain ⟨q1, q2, q3⟩ := e.rg i a h
    refine ⟨q1, q2, ?_⟩
    rw [upd_ne fun z => hR Rg e i (by rw [← z]; exact h)]
    exact q3
/-- a new object that is owned beside the slots -/
theorem Env.newOwn (E : Env F B H σ δ) (hp : H p = none) (nt : NotT o := by exact fun _ z => nomatch z) : Env (upd F p o) B (upd H p o) σ δ := by
  obtain ⟨Rg, e⟩ := E
  have hB : B p = none := e.bh.free hp
  have hne : ∀ a x, H a = some x → a ≠ p := fun a x h => ne_of_none h hp
  refine ⟨Rg, ⟨fun a x h => ?_, fun a x h => ?_, e.len, fun i c h => ?_, fun i a h => ?_, e.dj, ft_upd e.ft nt, fun i a xs h => by
    rw [upd_ne fun z => (e.rg i a h).2.1 (by rw [z]; exact hp)]
    exact e.rt i a xs h⟩⟩
  · rw [upd_ne (hne a x (e.bh a x h))]
    exact e.bh a x h
  · by_cases q : a = p
    · subst q
      rw [upd_same] at h ⊢
      exact ⟨h, hB⟩
    · rw [upd_ne q] at h ⊢
      exact e.fr a x h
  · obtain ⟨u, h1, h2⟩ := e.sl i c h
    refine ⟨u, h1, h2.mono (Same.refl B) fun a ha => ?_⟩
    rw [upd_ne fun z => (e.rg i a ha).2.1 (by rw [z]; exact hp)]
  · obtain ⟨q1, q2, q3⟩ := e.rg i a h
    have q : a ≠ p := fun z => q2 (by rw [z]; exact hp)
    rw [upd_ne q, upd_ne q]
    exact ⟨q1, q2, q3⟩
/-- a guarded object is changed -/
theorem ft_of {F : Hp} {p : Addr} {o o' : HO} (ft : ∀ a xs, upd F p o a ≠ some (.tup xs)) (nt : NotT o') : ∀ a xs, upd F p o' a ≠ some (.tup xs) := fun a xs z => by
  by_cases q : a = p
  · subst q
    rw [upd_same] at z
    exact nt xs (Option.some.inj z)
  · rw [upd_ne q] at z
    exact ft a xs (by rw [upd_ne q]; exact z)
theorem Env.reOwn {o' : HO} (E : Env (upd F p o) B H σ δ) (nt : NotT o' := by exact fun _ z => nomatch z) : Env (upd F p o') B (upd H p o') σ δ := by
  obtain ⟨Rg, e⟩ := E
  obtain ⟨hp, hB⟩ := e.fr p o upd_same
  have hR : ∀ i a, a ∈ Rg i → a ≠ p := fun i a h z => by
    have q := (e.rg i a h).2.2
    rw [z, upd_same] at q
    cases q
  refine ⟨Rg, ⟨fun a x h => ?_, fun a x h => ?_, e.len, fun i c h => ?_, fun i a h => ?_, e.dj, ft_of e.ft nt, fun i a xs h => by
    rw [upd_ne (hR i a h)]
    exact e.rt i a xs h⟩⟩
  · have q : a ≠ p := ne_of_none h hB
    rw [upd_ne q]
    exact e.bh a x h
  · by_cases q : a = p
    · subst q
      rw [upd_same] at h ⊢
      exact ⟨h, hB⟩
    · rw [upd_ne q] at h ⊢
      exact e.fr a x (by rw [upd_ne q]; exact h)
  · obtain ⟨u, h1, h2⟩ := e.sl i c h
    refine ⟨u, h1, h2.mono (Same.refl B) fun a ha => ?_⟩
    rw [upd_ne (hR i a ha)]
  · obtain ⟨q1, q2, q3⟩ := e.rg i a h
    rw [upd_ne (hR i a h)] at q3 ⊢
    rw [upd_ne (hR i a h)]
    exact ⟨q1, q2, q3⟩
/-- a guarded object becomes data -/
theorem Env.freeze (E : Env (upd F p o) B H σ δ) (hF : F p = none) : Env F (upd B p o) H σ δ := by
  obtain ⟨Rg, e⟩ := E
  obtain ⟨hp, hB⟩ := e.fr p o upd_same
  have hR : ∀ i a, a ∈ Rg i → a ≠ p := fun i a h z => by
    have q := (e.rg i a h).2.2
    rw [z, upd_same] at q
    cases q
  refine ⟨Rg, ⟨fun a x h => ?_, fun a x h => ?_, e.len, fun i c h => ?_, fun i a h => ?_, e.dj, fun a xs z => by
    by_cases q : a = p
    · rw [q, hF] at z
      cases z
    · exact e.ft a xs (by rw [upd_ne q]; exact z), e.rt⟩⟩
  · by_cases q : a = p
    · subst q
      rw [upd_same] at h
      cases h
      exact hp
    · rw [upd_ne q] at h
      exact e.bh a x h
  · have q : a ≠ p := ne_of_none h hF
    have r := e.fr a x (by rw [upd_ne q]; exact h)
    rw [upd_ne q]
    exact r
  · obtain ⟨u, h1, h2⟩ := e.sl i c h
    exact ⟨u, h1, h2.mono (same_upd hB) fun a ha => rfl⟩
  · obtain ⟨q1, q2, q3⟩ := e.rg i a h
    rw [upd_ne (hR i a h)] at q3
    rw [upd_ne (hR i a h)]
    exact ⟨q1, q2, q3⟩
/-- all tuples are data -/
def tups (B H : Hp) : Hp := fun a => match H a with
  | some (.tup xs) => some (.tup xs)
  | _ => B a
theorem tupB_of {B H : Hp} {a : Addr} {xs : List V} (h : H a = some (.tup xs)) : tups B H a = some (.tup xs) := by
  unfold tups
  rw [h]
theorem tups_not {B H : Hp} {a : Addr} (h : ∀ xs, H a ≠ some (.tup xs)) : tups B H a = B a := by
  unfold tups
  split
  · rename_i xs e
    exact absurd e (h xs)
  · rfl
theorem tups_same {B H : Hp} (s : Same B H) : Same B (tups B H) ∧ Same (tups B H) H := by
  refine ⟨fun a x e => ?_, fun a x e => ?_⟩
  · have h := s a x e
    unfold tups
    split
    · rename_i xs e2
      rw [h] at e2
      exact e2.symm
    · exact e
  · unfold tups at e
    split at e
    · rename_i xs e2
      rw [e2]
      exact e
    · exact s a x e
theorem Env.tups (E : Env F B H σ δ) : Env F (tups B H) H σ δ := by
  obtain ⟨Rg, e⟩ := E
  obtain ⟨s1, s2⟩ := tups_same e.bh
  refine ⟨Rg, ⟨s2, fun a x h => ?_, e.len, fun i c h => ?_, fun i a h => ?_, e.dj, e.ft, e.rt⟩⟩
  · obtain ⟨h1, h2⟩ := e.fr a x h
    refine ⟨h1, ?_⟩
    rw [tups_not fun xs z => e.ft a xs (by rw [h, ← h1]; exact z)]
    exact h2
  · obtain ⟨u, h1, h2⟩ := e.sl i c h
    exact ⟨u, h1, h2.mono s1 fun a ha => rfl⟩
  · obtain ⟨q1, q2, q3⟩ := e.rg i a h
    refine ⟨?_, q2, q3⟩
    rw [tups_not fun xs z => e.rt i a xs h z]
    exact q1
theorem Env.fresh (E : Env F B H σ δ) (hp : H p = none) : F p = none := by
  cases q : F p with
  | none => rfl
  | some x =>
    have := (E.fr p x q).1
    rw [hp] at this
    cases this
end

/-! ### the readings -/
/-- A value for each, in a row -/
inductive All2 {α β : Type} (R : α → β → Prop) : List α → List β → Prop
  | nil : All2 R [] []
  | cons {a : α} {b : β} {as : List α} {bs : List β} : R a b → All2 R as bs → All2 R (a :: as) (b :: bs)
theorem All2.imp {α β : Type} {R S : α → β → Prop} (f : ∀ a b, R a b → S a b) : ∀ {as : List α} {bs : List β}, All2 R as bs → All2 S as bs
  | _, _, .nil => .nil
  | _, _, .cons h t => .cons (f _ _ h) (t.imp f)
theorem All2.length {α β : Type} {R : α → β → Prop} : ∀ {as : List α} {bs : List β}, All2 R as bs → as.length = bs.length
  | _, _, .nil => rfl
  | _, _, .cons _ t => by rw [List.length_cons, List.length_cons, t.length]
theorem All2.get {α β : Type} {R : α → β → Prop} : ∀ {as : List α} {bs : List β} {i : Nat} {a : α}, All2 R as bs → as[i]? = some a → ∃ b, bs[i]? = some b ∧ R a b
  | _, _, _, _, .nil, h => by simp at h
  | _, _, 0, a, .cons r t, h => ⟨_, rfl, by have e : _ = a := Option.some.inj h; rw [← e]; exact r⟩
  | _, _, i + 1, a, .cons r t, h => by
    obtain ⟨b, h1, h2⟩ := t.get (i := i) (a := a) h
    exact ⟨b, h1, h2⟩
theorem All2.append {α β : Type} {R : α → β → Prop} : ∀ {as as' : List α} {bs bs' : List β}, All2 R as bs → All2 R as' bs' → All2 R (as ++ as') (bs ++ bs')
  | _, _, _, _, .nil, h => h
  | _, _, _, _, .cons r t, h => .cons r (t.append h)

def tE (δ δ' : DSt) (A : AV) : TE := fun σ H Q => ∃ F B, Env F B H σ δ ∧ ∀ v B' H', Env F B' H' σ δ' → Same B B' → A.p B' v → Q v H'
def tT (δ δ' : DSt) (b : Bool) : TT := fun σ H Q => ∃ F B, Env F B H σ δ ∧ ∀ B' H', Env F B' H' σ δ' → Same B B' → Q b H'
def tA (δ δ' : DSt) (As : List AV) : TA := fun σ H Q => ∃ F B, Env F B H σ δ ∧ ∀ vs B' H', Env F B' H' σ δ' → Same B B' → All2 (fun (A : AV) v => A.p B' v) As vs → Q vs H'
/-- the slots ws alone may differ -/
def Only (ws : List Nat) (σ σ' : L2.St) : Prop := σ'.length = σ.length ∧ ∀ j, j ∉ ws → σ'[j]? = σ[j]?
theorem Only.refl (ws : List Nat) (σ : L2.St) : Only ws σ σ := ⟨rfl, fun _ _ => rfl⟩
theorem Only.trans {ws ws' : List Nat} {σ σ1 σ2 : L2.St} (a : Only ws σ σ1) (b : Only ws' σ1 σ2) : Only (ws ++ ws') σ σ2 := ⟨b.1.trans a.1, fun j h => by
  rw [List.mem_append] at h
  exact (b.2 j fun z => h (.inr z)).trans (a.2 j fun z => h (.inl z))⟩
theorem only_set (σ : L2.St) (i : Nat) (x : Option V) : Only [i] σ (σ.set i x) := ⟨List.length_set .., fun j h => List.getElem?_set_ne fun z => h (by rw [z]; exact List.mem_singleton.mpr rfl)⟩
theorem wipe_at (σ : L2.St) (j : Nat) : ∀ vs : List Nat, (L2.wipe σ vs)[j]? = if j ∈ vs then (if j < σ.length then some none else none) else σ[j]?
  | [] => by simp [L2.wipe]
  | v :: vs => by
    show ((L2.wipe σ vs).set v none)[j]? = _
    rw [List.getElem?_set, wipe_at σ j vs, wipe_length]
    by_cases h : v = j
    · subst h
      simp
    · rw [if_neg h]
      by_cases h2 : j ∈ vs
      · rw [if_pos h2, if_pos (List.mem_cons_of_mem _ h2)]
      · rw [if_neg h2, if_neg (by simp only [List.mem_cons, not_or]; exact ⟨fun z => h z.symm, h2⟩)]
theorem wipe_only {ws vs : List Nat} {σ σ' : L2.St} (h : Only ws σ σ') (hs : ∀ j ∈ ws, j ∈ vs) : L2.wipe σ' vs = L2.wipe σ vs := by
  refine List.ext_getElem? fun j => ?_
  rw [wipe_at, wipe_at, h.1]
  by_cases q : j ∈ vs
  · rw [if_pos q, if_pos q]
  · rw [if_neg q, if_neg q]
    exact h.2 j fun z => q (hs j z)
theorem wipe_wipe (σ : L2.St) (vs : List Nat) : L2.wipe (L2.wipe σ vs) vs = L2.wipe σ vs := by
  refine List.ext_getElem? fun j => ?_
  rw [wipe_at, wipe_at, wipe_length]
  by_cases q : j ∈ vs
  · rw [if_pos q, if_pos q]
  · rw [if_neg q, if_neg q]
theorem Env.unwipe {F B H : Hp} {σ : L2.St} {δ : DSt} {vs : List Nat} (E : Env F B H (L2.wipe σ vs) δ) : Env F B H σ δ := by
  obtain ⟨Rg, e⟩ := E
  refine ⟨Rg, ⟨e.bh, e.fr, by rw [← e.len, wipe_length], fun i c h => ?_, e.rg, e.dj, e.ft, e.rt⟩⟩
  obtain ⟨v, h1, h2⟩ := e.sl i c h
  exact ⟨v, (wipe_some h1).1, h2⟩
def tG (A : AV) (ws : List Nat) (δ δ' : DSt) : TG := fun v σ H Q => ∃ F B, Env F B H σ δ ∧ A.p B v ∧ ∀ σ' B' H', Env F B' H' σ' δ' → Same B B' → Only ws σ σ' → Q σ' H'
/-- a new object of one's own: its address p, beside the slots -/
def tN (δ δ' : DSt) (R : Hp → HO → Prop) : TE := fun σ H Q => ∃ F B, Env F B H σ δ ∧ ∀ p o B' H', F p = none → Env (upd F p o) B' H' σ δ' → Same B B' → R B' o → Q (.ref p) H'
/-- how a statement may end -/
structure Out where
  nx : DSt → Prop := fun _ => False
  rt : AV → Prop := fun _ => False
  bk : DSt → Prop := fun _ => False
  ct : DSt → Prop := fun _ => False
  /-- what is known of the slots at a return -/
  rk : DSt → Prop := fun _ => True
def RkOk (rk : DSt → Prop) (F B H : Hp) : Prop := ∃ σ δ, rk δ ∧ Env F B H σ δ
def tS (δ : DSt) (O : Out) : TS := fun D σ H => ∃ F B, Env F B H σ δ ∧
  (∀ δ' σ' B' H', O.nx δ' → Env F B' H' σ' δ' → Same B B' → D.nx σ' H') ∧
  (∀ A v B' H', O.rt A → RkOk O.rk F B' H' → Same B B' → A.p B' v → D.rt v H') ∧
  (∀ δ' σ' B' H', O.bk δ' → Env F B' H' σ' δ' → Same B B' → D.bk σ' H') ∧
  (∀ δ' σ' B' H', O.ct δ' → Env F B' H' σ' δ' → Same B B' → D.ct σ' H')
/-- an iterator yields these, one behind another -/
def Walks (J : It) (B : Hp) (xs : List AV) : Prop := ∀ i B1 H1, Same B B1 → Same B1 H1 →
  (xs.length ≤ i → J.stop i H1) ∧ (∀ A, xs[i]? = some A → J.go i H1 ∧ ∀ x H2, J.yld i H1 x H2 →
    (H2 = H1 ∧ A.p B1 x) ∨ ∃ T o, H1 T = none ∧ H2 = upd H1 T o ∧ A.p (upd B1 T o) x)
def tI (δ δ' : DSt) (xs : List AV) : TI := fun σ H R => ∃ F B, Env F B H σ δ ∧ ∀ J B' H', Env F B' H' σ δ' → Same B B' → Walks J B' xs → xs.length ≤ sizeLine → R J H'

section
variable (X : Cx)
def JE (e : Expr) (δ δ' : DSt) (A : AV) : Prop := PE X e (tE δ δ' A)
def JN (e : Expr) (δ δ' : DSt) (R : Hp → HO → Prop) : Prop := PE X e (tN δ δ' R)
def JT (e : Expr) (δ δ' : DSt) (b : Bool) : Prop := PT X e (tT δ δ' b)
def JA (es : List Expr) (δ δ' : DSt) (As : List AV) : Prop := PA X es (tA δ δ' As)
def JG (tg : Expr) (A : AV) (ws : List Nat) (δ δ' : DSt) : Prop := PG X tg (tG A ws δ δ')
def JI (tg iter : Expr) (δ δ' : DSt) (xs : List AV) : Prop := PI X tg iter (tI δ δ' xs)
def JS (st : Stmt) (δ : DSt) (O : Out) : Prop := PS X st (tS δ O)
def JB (st : List Stmt) (δ : DSt) (O : Out) : Prop := PSs X st (tS δ O)
end

section
variable {X : Cx} {e : Expr} {te te' : TE}
theorem PE.imp (h : PE X e te) (f : ∀ σ H Q, te' σ H Q → te σ H Q) : PE X e te' := ⟨fun pins s σ H Q I q => h.run pins s σ H Q I (f σ H Q q)⟩
theorem PT.imp {t t' : TT} (h : PT X e t) (f : ∀ σ H Q, t' σ H Q → t σ H Q) : PT X e t' := ⟨fun pins s σ H Q I q => h.run pins s σ H Q I (f σ H Q q)⟩
theorem PA.imp {es : List Expr} {t t' : TA} (h : PA X es t) (f : ∀ σ H Q, t' σ H Q → t σ H Q) : PA X es t' := ⟨fun pos pins s σ H Q I q => h.run pos pins s σ H Q I (f σ H Q q)⟩
theorem PG.imp {t t' : TG} (h : PG X e t) (f : ∀ v σ H Q, t' v σ H Q → t v σ H Q) : PG X e t' := ⟨fun pins s σ H v u Q I r q => h.run pins s σ H v u Q I r (f v σ H Q q)⟩
theorem PI.imp {tg : Expr} {t t' : TI} (h : PI X tg e t) (f : ∀ σ H R, t' σ H R → t σ H R) : PI X tg e t' := ⟨fun pins s σ H R I q => h.run pins s σ H R I (f σ H R q)⟩
theorem PS.imp {st : Stmt} {t t' : TS} (h : PS X st t) (f : ∀ D σ H, t' D σ H → t D σ H) : PS X st t' := ⟨fun pins s σ H D I q => h.run pins s σ H D I (f D σ H q)⟩
theorem PSs.imp {st : List Stmt} {t t' : TS} (h : PSs X st t) (f : ∀ D σ H, t' D σ H → t D σ H) : PSs X st t' := ⟨fun pins s σ H D I q => h.run pins s σ H D I (f D σ H q)⟩
end

/-! ### readings of any kind, for loops -/
section
variable {X : Cx}
def gAny (X : Cx) (tg : Expr) : TG := fun v σ H Q => ∃ A ws δ δ', JG X tg A ws δ δ' ∧ tG A ws δ δ' v σ H Q
theorem pg_any {tg : Expr} : PG X tg (gAny X tg) := ⟨fun pins s σ H v u Q I r ⟨A, ws, δ, δ', j, q⟩ => j.run pins s σ H v u Q I r q⟩
def bAny (X : Cx) (st : List Stmt) : TS := fun D σ H => ∃ δ O, JB X st δ O ∧ tS δ O D σ H
theorem pb_any {st : List Stmt} : PSs X st (bAny X st) := ⟨fun pins s σ H D I ⟨δ, O, j, q⟩ => j.run pins s σ H D I q⟩
def cAny (X : Cx) (c : Expr) : TT := fun σ H Q => ∃ δ δ' b, JT X c δ δ' b ∧ tT δ δ' b σ H Q
theorem pt_any {c : Expr} : PT X c (cAny X c) := ⟨fun pins s σ H Q I ⟨δ, δ', b, j, q⟩ => j.run pins s σ H Q I q⟩
end
end J
/-! Data, and the rules of expressions. -/
namespace J
open PySem PySem.Spec L2

/-! ### data -/
mutual
inductive Dd (B : Hp) : V → PyData → Prop
  | non : Dd B .non .none
  | bl (b : Bool) : Dd B (.bl b) (.bool b)
  | int (i : Int) : Dd B (.int i) (.int i)
  | str (x : Str) : Dd B (.str x) (.str x)
  | lst {a : Addr} {xs : List V} {ds : List PyData} : B a = some (.lst xs) → ds.length ≤ sizeLine → DdAll B xs ds → Dd B (.ref a) (.list ds)
  | tup {a : Addr} {xs : List V} {ds : List PyData} : B a = some (.tup xs) → ds.length ≤ sizeLine → DdAll B xs ds → Dd B (.ref a) (.tuple ds)
inductive DdAll (B : Hp) : List V → List PyData → Prop
  | nil : DdAll B [] []
  | cons {v : V} {vs : List V} {d : PyData} {ds : List PyData} : Dd B v d → DdAll B vs ds → DdAll B (v :: vs) (d :: ds)
end
mutual
theorem Dd.mono {B B' : Hp} (s : Same B B') : ∀ (d : PyData) (v : V), Dd B v d → Dd B' v d
  | .none, _, h => by cases h; exact .non
  | .bool b, _, h => by cases h; exact .bl b
  | .int i, _, h => by cases h; exact .int i
  | .str x, _, h => by cases h; exact .str x
  | .list ds, _, h => by
    cases h with
    | lst h1 h2 h3 => exact .lst (s _ _ h1) h2 (DdAll.mono s ds _ h3)
  | .tuple ds, _, h => by
    cases h with
    | tup h1 h2 h3 => exact .tup (s _ _ h1) h2 (DdAll.mono s ds _ h3)
  | .dict _, _, h => by cases h
theorem DdAll.mono {B B' : Hp} (s : Same B B') : ∀ (ds : List PyData) (vs : List V), DdAll B vs ds → DdAll B' vs ds
  | [], _, h => by cases h; exact .nil
  | d :: ds, _, h => by
    cases h with
    | cons h1 h2 => exact .cons (Dd.mono s d _ h1) (DdAll.mono s ds _ h2)
end
mutual
theorem Dd.dp {K : PySem.W.Frag} {B H : Hp} (s : Same B H) : ∀ (d : PyData) (v : V), Dd B v d → Dp K H v d
  | .none, _, h => by cases h; exact .non
  | .bool b, _, h => by cases h; exact .bl b
  | .int i, _, h => by cases h; exact .int i
  | .str x, _, h => by cases h; exact .str x
  | .list ds, _, h => by
    cases h with
    | lst h1 h2 h3 => exact .lst (SqL.of (s _ _ h1)) (DdAll.dp s ds _ h3)
  | .tuple ds, _, h => by
    cases h with
    | tup h1 h2 h3 => exact .tup (SqT.of (s _ _ h1)) (DdAll.dp s ds _ h3)
  | .dict _, _, h => by cases h
theorem DdAll.dp {K : PySem.W.Frag} {B H : Hp} (s : Same B H) : ∀ (ds : List PyData) (vs : List V), DdAll B vs ds → DpAll K H vs ds
  | [], _, h => by cases h; exact .nil
  | d :: ds, _, h => by
    cases h with
    | cons h1 h2 => exact .cons (Dd.dp s d _ h1) (DdAll.dp s ds _ h2)
end
section
variable {B B' : Hp} {v : V} {vs ws : List V} {d : PyData} {ds es : List PyData}
theorem Dd.int_eq {i : Int} (h : Dd B v (.int i)) : v = .int i := by cases h; rfl
theorem Dd.bl_eq {b : Bool} (h : Dd B v (.bool b)) : v = .bl b := by cases h; rfl
theorem Dd.str_eq {x : Str} (h : Dd B v (.str x)) : v = .str x := by cases h; rfl
theorem Dd.non_eq (h : Dd B v .none) : v = .non := by cases h; rfl
theorem Dd.lst_eq (h : Dd B v (.list ds)) : ∃ a xs, v = .ref a ∧ B a = some (.lst xs) ∧ ds.length ≤ sizeLine ∧ DdAll B xs ds := by
  cases h with
  | lst h1 h2 h3 => exact ⟨_, _, rfl, h1, h2, h3⟩
theorem Dd.tup_eq (h : Dd B v (.tuple ds)) : ∃ a xs, v = .ref a ∧ B a = some (.tup xs) ∧ ds.length ≤ sizeLine ∧ DdAll B xs ds := by
  cases h with
  | tup h1 h2 h3 => exact ⟨_, _, rfl, h1, h2, h3⟩
theorem DdAll.len : ∀ {vs : List V} {ds : List PyData}, DdAll B vs ds → vs.length = ds.length
  | _, _, .nil => rfl
  | _, _, .cons _ t => by rw [List.length_cons, List.length_cons, t.len]
theorem DdAll.get : ∀ {vs : List V} {ds : List PyData} {i : Nat} {d : PyData}, DdAll B vs ds → ds[i]? = some d → ∃ v, vs[i]? = some v ∧ Dd B v d
  | _, _, _, _, .nil, h => by simp at h
  | _, _, 0, d, .cons r t, h => by
    have e : _ = d := Option.some.inj h
    subst e
    exact ⟨_, rfl, r⟩
  | _, _, i + 1, d, .cons r t, h => by
    obtain ⟨v, h1, h2⟩ := t.get (i := i) (d := d) h
    exact ⟨v, h1, h2⟩
theorem DdAll.at : ∀ {vs : List V} {ds : List PyData} {i : Nat} {v : V}, DdAll B vs ds → vs[i]? = some v → ∃ d, ds[i]? = some d ∧ Dd B v d
  | _, _, _, _, .nil, h => by simp at h
  | _, _, 0, d, .cons r t, h => by
    have e : _ = d := Option.some.inj h
    subst e
    exact ⟨_, rfl, r⟩
  | _, _, i + 1, d, .cons r t, h => by
    obtain ⟨v, h1, h2⟩ := t.at (i := i) (v := d) h
    exact ⟨v, h1, h2⟩
theorem DdAll.append : ∀ {vs ws : List V} {ds es : List PyData}, DdAll B vs ds → DdAll B ws es → DdAll B (vs ++ ws) (ds ++ es)
  | _, _, _, _, .nil, h => h
  | _, _, _, _, .cons r t, h => .cons r (t.append h)
theorem DdAll.take : ∀ (n : Nat) {vs : List V} {ds : List PyData}, DdAll B vs ds → DdAll B (vs.take n) (ds.take n)
  | 0, _, _, _ => .nil
  | _ + 1, _, _, .nil => .nil
  | n + 1, _, _, .cons r t => .cons r (DdAll.take n t)
theorem DdAll.drop : ∀ (n : Nat) {vs : List V} {ds : List PyData}, DdAll B vs ds → DdAll B (vs.drop n) (ds.drop n)
  | 0, _, _, h => h
  | _ + 1, _, _, .nil => .nil
  | n + 1, _, _, .cons _ t => DdAll.drop n t
theorem DdAll.reverse : ∀ {vs : List V} {ds : List PyData}, DdAll B vs ds → DdAll B vs.reverse ds.reverse
  | _, _, .nil => .nil
  | _, _, .cons r t => by
    rw [List.reverse_cons, List.reverse_cons]
    exact (DdAll.reverse t).append (.cons r .nil)
theorem DdAll.set : ∀ {vs : List V} {ds : List PyData} (i : Nat) {v : V} {d : PyData}, DdAll B vs ds → Dd B v d → DdAll B (vs.set i v) (ds.set i d)
  | _, _, _, _, _, .nil, _ => .nil
  | _, _, 0, _, _, .cons _ t, h => .cons h t
  | _, _, i + 1, _, _, .cons r t, h => .cons r (t.set i h)
end
/-- this data -/
def aD (d : PyData) : AV := ⟨fun B v => Dd B v d, fun s h => Dd.mono s _ _ h⟩
abbrev aI (i : Int) : AV := aD (.int i)
abbrev aB (b : Bool) : AV := aD (.bool b)
abbrev aS (x : Str) : AV := aD (.str x)
abbrev aN : AV := aD .none
theorem DdAll.all2 {B : Hp} : ∀ {vs : List V} {ds : List PyData}, DdAll B vs ds → All2 (fun (A : AV) v => A.p B v) (ds.map aD) vs
  | _, _, .nil => .nil
  | _, _, .cons r t => .cons r t.all2
theorem DdAll.of2 {B : Hp} : ∀ {vs : List V} {ds : List PyData}, All2 (fun (A : AV) v => A.p B v) (ds.map aD) vs → DdAll B vs ds
  | [], [], _ => .nil
  | [], d :: ds, h => by cases h
  | v :: vs, [], h => by cases h
  | v :: vs, d :: ds, h => by
    cases h with
    | cons r t => exact .cons r (DdAll.of2 t)

theorem small {n : Nat} (h : n ≤ 1000) : n ≤ sizeLine := Nat.le_of_lt (small1000 h)

/-! ### growing -/
inductive Gro : Hp → Hp → Hp → Hp → Prop
  | refl (B H : Hp) : Gro B H B H
  | new {B H B' H' : Hp} {p : Addr} {o : HO} : Gro B H B' H' → H' p = none → Gro B H (upd B' p o) (upd H' p o)
theorem Gro.env {F B H B' H' : Hp} {σ : L2.St} {δ : DSt} (g : Gro B H B' H') (E : Env F B H σ δ) : Env F B' H' σ δ ∧ Same B B' := by
  induction g with
  | refl => exact ⟨E, Same.refl _⟩
  | new g hp ih =>
    obtain ⟨E1, s1⟩ := ih
    exact ⟨E1.laid hp, s1.trans (same_upd (E1.bh.free hp))⟩
theorem Gro.one {B H : Hp} {p : Addr} {o : HO} (h : H p = none) : Gro B H (upd B p o) (upd H p o) := .new (.refl B H) h

section
variable {X : Cx} {F B B' H H' : Hp} {δ δ1 δ2 δ3 : DSt} {A C Z : AV} {a b e : Expr} {es : List Expr} {pos : Pos} {As : List AV}

/-! ### names, constants -/
theorem je_pv {x : Str} (i : Nat) (A : AV) (h : δ[i]? = some (some (.val A))) (hN : X.N[i]? = some x) (hv : Vis X.env.scope x) (hd : (x == ("__debug__" : Str)) = false) (hcd : (x == ("__classdict__" : Str)) = false) : JE X (.Name x pos) δ δ A :=
  PE.imp (pe_var hN hv hd hcd) fun σ H Q ⟨F, B, E, q⟩ => by
    obtain ⟨v, h1, h2⟩ := E.val h
    exact ⟨v, h1, q v B H E (Same.refl _) h2⟩
theorem je_v {x : Str} (i : Nat) {A : AV} (h : δ[i]? = some (some (.val A)) := by rfl) (hN : X.N[i]? = some x := by rfl) (hv : Vis X.env.scope x := by first | exact Or.inl rfl | exact Or.inr (Or.inl rfl) | exact Or.inr (Or.inr rfl))
    (hd : (x == ("__debug__" : Str)) = false := by decide) (hcd : (x == ("__classdict__" : Str)) = false := by decide) : JE X (.Name x pos) δ δ A := je_pv i A h hN hv hd hcd
theorem je_c {v : V} {d : PyData} (h : PE X e (tC v)) (hd : ∀ B, Dd B v d) : JE X e δ δ (aD d) :=
  PE.imp h fun σ H Q ⟨F, B, E, q⟩ => q v B H E (Same.refl _) (hd B)
theorem je_int {i : Int} {j : Nat} : JE X (.Constant (.int i) j pos) δ δ (aI i) := je_c pe_int fun _ => .int i
theorem je_bl {i : Bool} {j : Nat} : JE X (.Constant (.bool i) j pos) δ δ (aB i) := je_c pe_bl fun _ => .bl i
theorem je_non {j : Nat} : JE X (.Constant .none j pos) δ δ aN := je_c pe_non fun _ => .non
theorem je_str {i : Str} {j : Nat} : JE X (.Constant (.str i) j pos) δ δ (aS i) := je_c pe_str fun _ => .str i
theorem je_glI {x : Str} {i : Int} {t : Tok} (hm : X.mg x = some (.int i t)) (hg : Gl X x := by rfl) (hd : (x == ("__debug__" : Str)) = false := by decide) : JE X (.Name x pos) δ δ (aI i) := je_c (pe_glob (v := .int i) hg hm ⟨t, rfl⟩ hd) fun _ => .int i
theorem je_glS {x i : Str} {t : Tok} (hm : X.mg x = some (.str i t)) (hg : Gl X x := by rfl) (hd : (x == ("__debug__" : Str)) = false := by decide) : JE X (.Name x pos) δ δ (aS i) := je_c (pe_glob (v := .str i) hg hm ⟨t, rfl⟩ hd) fun _ => .str i
/-- another reading of the value -/
theorem JE.to (h : JE X e δ δ1 A) (k : ∀ B v, A.p B v → Z.p B v) : JE X e δ δ1 Z :=
  PE.imp h fun σ H Q ⟨F, B, E, q⟩ => ⟨F, B, E, fun v B1 H1 E1 s1 a1 => q v B1 H1 E1 s1 (k _ _ a1)⟩
theorem JE.eq {d d' : PyData} (h : JE X e δ δ1 (aD d)) (k : d = d') : JE X e δ δ1 (aD d') := by subst k; exact h
theorem JN.to {R R' : Hp → HO → Prop} (h : JN X e δ δ1 R) (k : ∀ B o, R B o → R' B o) : JN X e δ δ1 R' :=
  PE.imp h fun σ H Q ⟨F, B, E, q⟩ => ⟨F, B, E, fun p o B1 H1 f E1 s1 a1 => q p o B1 H1 f E1 s1 (k _ _ a1)⟩

/-! ### operators -/
/-- what an operation on two values gives -/
def ROp (r : R2) (A C Z : AV) : Prop := ∀ B H x y (Q : VK), Same B H → A.p B x → C.p B y → (∀ z B' H', Gro B H B' H' → Z.p B' z → Q z H') → r x y H Q
def RUn (r : V → Hp → VK → Prop) (A Z : AV) : Prop := ∀ B H x (Q : VK), Same B H → A.p B x → (∀ z B' H', Gro B H B' H' → Z.p B' z → Q z H') → r x H Q
def RCl (r : List V → Hp → VK → Prop) (As : List AV) (Z : AV) : Prop := ∀ B H vs (Q : VK), Same B H → All2 (fun (A : AV) v => A.p B v) As vs → (∀ z B' H', Gro B H B' H' → Z.p B' z → Q z H') → r vs H Q
theorem tOp_ok {r : R2} (hr : ROp r A C Z) : ∀ σ H Q, tE δ δ2 Z σ H Q → tOp r (tE δ δ1 A) (tE δ1 δ2 C) σ H Q := fun σ H Q ⟨F, B, E, q⟩ =>
  ⟨F, B, E, fun x B1 H1 E1 s1 a1 => ⟨F, B1, E1, fun y B2 H2 E2 s2 c2 => hr B2 H2 x y Q E2.bh (A.mono s2 a1) c2 fun z B3 H3 g hz =>
    let ⟨E3, s3⟩ := g.env E2
    q z B3 H3 E3 ((s1.trans s2).trans s3) hz⟩⟩
theorem je_op {op : Operator} {r : R2} (ho : OpR X (binaryOp op) r) (hr : ROp r A C Z) (ha : JE X a δ δ1 A) (hb : JE X b δ1 δ2 C) : JE X (.BinOp a op b pos) δ δ2 Z := PE.imp (pe_op ho ha hb) (tOp_ok hr)
theorem je_cmp {op : CmpOp} {r : R2} (ho : OpR X (compareOp op) r) (hr : ROp r A C Z) (ha : JE X a δ δ1 A) (hb : JE X b δ1 δ2 C) (hm : behindInMarks op b = false := by first | exact nomark _ | rfl) : JE X (.Compare a [op] [b] pos) δ δ2 Z := PE.imp (pe_cmpR ho ha hb hm) (tOp_ok hr)
theorem je_un {op : UnaryOp} {r : V → Hp → VK → Prop} (ho : UnR X (unaryOp op) r) (hr : RUn r A Z) (ha : JE X a δ δ1 A) : JE X (.UnaryOp op a pos) δ δ1 Z :=
  PE.imp (pe_un ho ha) fun σ H Q ⟨F, B, E, q⟩ => ⟨F, B, E, fun x B1 H1 E1 s1 a1 => hr B1 H1 x Q E1.bh a1 fun z B3 H3 g hz =>
    let ⟨E3, s3⟩ := g.env E1
    q z B3 H3 E3 (s1.trans s3) hz⟩
theorem je_ix {r : R2} (ho : IxR X r) (hr : ROp r A C Z) (ha : JE X a δ δ1 A) (hb : JE X b δ1 δ2 C) (hs : PlainIx b := by exact fun _ _ => rfl) : JE X (.Subscript a b pos) δ δ2 Z := PE.imp (pe_ix ho ha hb hs) (tOp_ok hr)
theorem je_chain {c : Expr} {op op' : CmpOp} {r r' : R2} {p q : Bool} {D : AV} (ho : OpR X (compareOp op) r) (ho' : OpR X (compareOp op') r') (hr : ROp r A C (aB p)) (hr' : p = true → ROp r' C D (aB q)) (ha : JE X a δ δ1 A) (hb : JE X b δ1 δ1 C) (hc : JE X c δ1 δ1 D)
    (he : ∀ {t : TE}, t = tChain r r' (tE δ δ1 A) (tE δ1 δ1 C) (tE δ1 δ1 D) → PE X (.Compare a [op, op'] [b, c] pos) t) : JE X (.Compare a [op, op'] [b, c] pos) δ δ1 (aB (p && q)) :=
  PE.imp (he rfl) fun σ H Q ⟨F, B, E, k⟩ => ⟨F, B, E, fun x B1 H1 E1 s1 a1 => ⟨F, B1, E1, fun y B2 H2 E2 s2 c2 => hr B2 H2 x y _ E2.bh (A.mono s2 a1) c2 fun z B3 H3 g hz => by
    obtain ⟨E3, s3⟩ := g.env E2
    have ez := Dd.bl_eq hz
    refine ⟨p, ez, ?_⟩
    cases p with
    | true =>
      rw [if_pos rfl]
      refine ⟨F, B3, E3, fun u B4 H4 E4 s4 d4 => hr' rfl B4 H4 y u Q E4.bh (C.mono (s3.trans s4) c2) d4 fun z B5 H5 g5 hz5 => ?_⟩
      obtain ⟨E5, s5⟩ := g5.env E4
      exact k z B5 H5 E5 ((((s1.trans s2).trans s3).trans s4).trans s5) hz5
    | false =>
      rw [if_neg Bool.false_ne_true]
      exact k (.bl false) B3 H3 E3 ((s1.trans s2).trans s3) (.bl false)⟩⟩

theorem rop_I0 {g : Int → Int → Int} {i j : Int} : ROp (rI0 fun i j => .int (g i j)) (aI i) (aI j) (aI (g i j)) := fun B H x y Q _ h1 h2 q => ⟨i, j, Dd.int_eq h1, Dd.int_eq h2, q _ B H (.refl B H) (.int _)⟩
theorem rop_I {Cn : Int → Int → Prop} {g : Int → Int → Int} {i j : Int} (h : Cn i j) : ROp (rI Cn fun i j => .int (g i j)) (aI i) (aI j) (aI (g i j)) := fun B H x y Q _ h1 h2 q => ⟨i, j, Dd.int_eq h1, Dd.int_eq h2, h, q _ B H (.refl B H) (.int _)⟩
theorem rop_B0 {g : Int → Int → Bool} {i j : Int} : ROp (rI0 fun i j => .bl (g i j)) (aI i) (aI j) (aB (g i j)) := fun B H x y Q _ h1 h2 q => ⟨i, j, Dd.int_eq h1, Dd.int_eq h2, q _ B H (.refl B H) (.bl _)⟩
theorem run_U {g : Int → Int} {i : Int} : RUn (rU fun i => .int (g i)) (aI i) (aI (g i)) := fun B H x Q _ h1 q => ⟨i, Dd.int_eq h1, q _ B H (.refl B H) (.int _)⟩
theorem je_add {i j : Int} (ha : JE X a δ δ1 (aI i)) (hb : JE X b δ1 δ2 (aI j)) : JE X (.BinOp a .Add b pos) δ δ2 (aI (i + j)) := je_op op_add rop_I0 ha hb
theorem je_sub {i j : Int} (ha : JE X a δ δ1 (aI i)) (hb : JE X b δ1 δ2 (aI j)) : JE X (.BinOp a .Sub b pos) δ δ2 (aI (i - j)) := je_op op_sub rop_I0 ha hb
theorem je_neg {i : Int} (ha : JE X a δ δ1 (aI i)) : JE X (.UnaryOp .USub a pos) δ δ1 (aI (-i)) := je_un un_neg run_U ha
theorem je_lt {i j : Int} (ha : JE X a δ δ1 (aI i)) (hb : JE X b δ1 δ2 (aI j)) : JE X (.Compare a [.Lt] [b] pos) δ δ2 (aB (decide (i < j))) := je_cmp op_lt rop_B0 ha hb
theorem je_le {i j : Int} (ha : JE X a δ δ1 (aI i)) (hb : JE X b δ1 δ2 (aI j)) : JE X (.Compare a [.LtE] [b] pos) δ δ2 (aB (decide (i ≤ j))) := je_cmp op_le rop_B0 ha hb
theorem je_gt {i j : Int} (ha : JE X a δ δ1 (aI i)) (hb : JE X b δ1 δ2 (aI j)) : JE X (.Compare a [.Gt] [b] pos) δ δ2 (aB (decide (j < i))) := je_cmp op_gt rop_B0 ha hb
theorem je_ge {i j : Int} (ha : JE X a δ δ1 (aI i)) (hb : JE X b δ1 δ2 (aI j)) : JE X (.Compare a [.GtE] [b] pos) δ δ2 (aB (decide (j ≤ i))) := je_cmp op_ge rop_B0 ha hb
/-- == of two ints, two bools, two texts -/
theorem rop_eqI {i j : Int} : ROp rEq (aI i) (aI j) (aB (i == j)) := fun B H x y Q _ h1 h2 q => by
  rw [Dd.int_eq h1, Dd.int_eq h2]
  exact ⟨rfl, by rw [dec_int]; exact q _ B H (.refl B H) (.bl _)⟩
theorem rop_eqB {i j : Bool} : ROp rEq (aB i) (aB j) (aB (i == j)) := fun B H x y Q _ h1 h2 q => by
  rw [Dd.bl_eq h1, Dd.bl_eq h2]
  exact ⟨rfl, by rw [dec_bl]; exact q _ B H (.refl B H) (.bl _)⟩
theorem rop_neI {i j : Int} : ROp rNe (aI i) (aI j) (aB (i != j)) := fun B H x y Q _ h1 h2 q => by
  rw [Dd.int_eq h1, Dd.int_eq h2]
  exact ⟨rfl, by rw [dec_int]; exact q _ B H (.refl B H) (.bl _)⟩
theorem rop_neB {i j : Bool} : ROp rNe (aB i) (aB j) (aB (i != j)) := fun B H x y Q _ h1 h2 q => by
  rw [Dd.bl_eq h1, Dd.bl_eq h2]
  exact ⟨rfl, by rw [dec_bl]; exact q _ B H (.refl B H) (.bl _)⟩
theorem je_eqI {i j : Int} (ha : JE X a δ δ1 (aI i)) (hb : JE X b δ1 δ2 (aI j)) : JE X (.Compare a [.Eq] [b] pos) δ δ2 (aB (i == j)) := je_cmp op_eq rop_eqI ha hb
theorem je_eqB {i j : Bool} (ha : JE X a δ δ1 (aB i)) (hb : JE X b δ1 δ2 (aB j)) : JE X (.Compare a [.Eq] [b] pos) δ δ2 (aB (i == j)) := je_cmp op_eq rop_eqB ha hb
theorem je_neI {i j : Int} (ha : JE X a δ δ1 (aI i)) (hb : JE X b δ1 δ2 (aI j)) : JE X (.Compare a [.NotEq] [b] pos) δ δ2 (aB (i != j)) := je_cmp op_ne rop_neI ha hb
theorem je_neB {i j : Bool} (ha : JE X a δ δ1 (aB i)) (hb : JE X b δ1 δ2 (aB j)) : JE X (.Compare a [.NotEq] [b] pos) δ δ2 (aB (i != j)) := je_cmp op_ne rop_neB ha hb
/-- is None, is not None -/
def isNon (d : PyData) : Bool := match d with | .none => true | _ => false
theorem Dd.isNon {B : Hp} {v : V} {d : PyData} (h : Dd B v d) : decide (v = .non) = isNon d := by
  cases h <;> first | rfl | exact decide_eq_false (fun z => nomatch z)
theorem je_is {d : PyData} (ha : JE X a δ δ1 (aD d)) {j : Nat} {p2 : Pos} : JE X (.Compare a [.Is] [.Constant .none j p2] pos) δ δ1 (aB (isNon d)) := by
  refine je_cmp (C := aN) op_isN (fun B H x y Q _ h1 h2 q => ⟨Dd.non_eq h2, ?_⟩) ha je_non
  rw [Dd.isNon h1]
  exact q _ B H (.refl B H) (.bl _)
theorem je_isnot {d : PyData} (ha : JE X a δ δ1 (aD d)) {j : Nat} {p2 : Pos} : JE X (.Compare a [.IsNot] [.Constant .none j p2] pos) δ δ1 (aB (!isNon d)) := by
  refine je_cmp (C := aN) op_notN (fun B H x y Q _ h1 h2 q => ⟨Dd.non_eq h2, ?_⟩) ha je_non
  rw [Dd.isNon h1]
  exact q _ B H (.refl B H) (.bl _)

/-! ### bools -/
theorem je_one {op : BoolOp} (h : JE X a δ δ1 A) : JE X (.BoolOp op [a] pos) δ δ1 A := pe_one h
theorem je_and {rs : List Expr} {p q : Bool} (h1 : JE X a δ δ1 (aB p)) (h2 : p = true → JE X (.BoolOp .And (b :: rs) pos) δ1 δ1 (aB q)) : JE X (.BoolOp .And (a :: b :: rs) pos) δ δ1 (aB (p && q)) := by
  cases p with
  | true =>
    refine PE.imp (pe_and h1 (h2 rfl)) fun σ H Q ⟨F, B, E, k⟩ => ⟨F, B, E, fun x B1 H1 E1 s1 a1 => ⟨true, Dd.bl_eq a1, ?_⟩⟩
    rw [if_pos rfl]
    exact ⟨F, B1, E1, fun y B2 H2 E2 s2 c2 => k y B2 H2 E2 (s1.trans s2) c2⟩
  | false =>
    refine PE.imp (pe_and (tb := fun _ _ _ => False) h1 ⟨fun _ _ _ _ _ _ z => z.elim⟩) fun σ H Q ⟨F, B, E, k⟩ => ⟨F, B, E, fun x B1 H1 E1 s1 a1 => ⟨false, Dd.bl_eq a1, ?_⟩⟩
    rw [if_neg Bool.false_ne_true]
    exact k _ B1 H1 E1 s1 (.bl false)
theorem je_or {rs : List Expr} {p q : Bool} (h1 : JE X a δ δ1 (aB p)) (h2 : p = false → JE X (.BoolOp .Or (b :: rs) pos) δ1 δ1 (aB q)) : JE X (.BoolOp .Or (a :: b :: rs) pos) δ δ1 (aB (p || q)) := by
  cases p with
  | false =>
    refine PE.imp (pe_or h1 (h2 rfl)) fun σ H Q ⟨F, B, E, k⟩ => ⟨F, B, E, fun x B1 H1 E1 s1 a1 => ⟨false, Dd.bl_eq a1, ?_⟩⟩
    rw [if_neg Bool.false_ne_true]
    exact ⟨F, B1, E1, fun y B2 H2 E2 s2 c2 => k y B2 H2 E2 (s1.trans s2) c2⟩
  | true =>
    refine PE.imp (pe_or (tb := fun _ _ _ => False) h1 ⟨fun _ _ _ _ _ _ z => z.elim⟩) fun σ H Q ⟨F, B, E, k⟩ => ⟨F, B, E, fun x B1 H1 E1 s1 a1 => ⟨true, Dd.bl_eq a1, ?_⟩⟩
    rw [if_pos rfl]
    exact k _ B1 H1 E1 s1 (.bl true)
theorem je_not {p : Bool} (h : JE X a δ δ1 (aB p)) : JE X (.UnaryOp .Not a pos) δ δ1 (aB (!p)) :=
  PE.imp (pe_not h) fun σ H Q ⟨F, B, E, k⟩ => ⟨F, B, E, fun x B1 H1 E1 s1 a1 => ⟨p, Dd.bl_eq a1, k _ B1 H1 E1 s1 (.bl _)⟩⟩
/-! ### tests -/
theorem jt_val {p : Bool} (h : JE X e δ δ1 (aB p)) (he : ∀ whole, isTrue e X.env whole = (do let v ← whole; standAt e.pos; holding [v] (truthy v)) := by intro _; rfl) : JT X e δ δ1 p :=
  PT.imp (pt_val h he) fun σ H Q ⟨F, B, E, k⟩ => ⟨F, B, E, fun x B1 H1 E1 s1 a1 => ⟨p, Dd.bl_eq a1, k B1 H1 E1 s1⟩⟩
theorem jt_cmp {op : CmpOp} {r : R2} {p : Bool} (ho : OpR X (compareOp op) r) (hr : ROp r A C (aB p)) (ha : JE X a δ δ1 A) (hb : JE X b δ1 δ2 C) (hm : behindInMarks op b = false := by first | exact nomark _ | rfl) : JT X (.Compare a [op] [b] pos) δ δ2 p :=
  PT.imp (pt_cmpR ho ha hb hm) fun σ H Q ⟨F, B, E, k⟩ => tOp_ok hr σ H _ ⟨F, B, E, fun z B1 H1 E1 s1 a1 => ⟨p, Dd.bl_eq a1, k B1 H1 E1 s1⟩⟩
def JW (X : Cx) (e : Expr) (δ δ' : DSt) (b : Bool) : Prop := PW X e (tT δ δ' b)
theorem JW.t {p : Bool} (h : JW X e δ δ1 p) : JT X e δ δ1 p := h.pt
theorem PW.imp {t t' : TT} (h : PW X e t) (f : ∀ σ H Q, t' σ H Q → t σ H Q) : PW X e t' := ⟨fun wh pins s σ H Q I q => h.run wh pins s σ H Q I (f σ H Q q)⟩
theorem jw_and1 {p : Bool} (h : JT X a δ δ1 p) : JW X (.BoolOp .And [a] pos) δ δ1 p := pw_and1 h
theorem jw_or1 {p : Bool} (h : JT X a δ δ1 p) : JW X (.BoolOp .Or [a] pos) δ δ1 p := pw_or1 h
theorem jw_and {rs : List Expr} {p q : Bool} (h1 : JT X a δ δ1 p) (h2 : p = true → JW X (.BoolOp .And (b :: rs) pos) δ1 δ1 q) : JW X (.BoolOp .And (a :: b :: rs) pos) δ δ1 (p && q) := by
  cases p with
  | true => exact PW.imp (pw_and h1 (h2 rfl)) fun σ H Q ⟨F, B, E, k⟩ => ⟨F, B, E, fun B1 H1 E1 s1 => iteT ⟨F, B1, E1, fun B2 H2 E2 s2 => k B2 H2 E2 (s1.trans s2)⟩⟩
  | false => exact PW.imp (pw_and (tB' := fun _ _ _ => False) h1 ⟨fun _ _ _ _ _ _ _ z => z.elim⟩) fun σ H Q ⟨F, B, E, k⟩ => ⟨F, B, E, fun B1 H1 E1 s1 => iteF (k B1 H1 E1 s1)⟩
theorem jw_or {rs : List Expr} {p q : Bool} (h1 : JT X a δ δ1 p) (h2 : p = false → JW X (.BoolOp .Or (b :: rs) pos) δ1 δ1 q) : JW X (.BoolOp .Or (a :: b :: rs) pos) δ δ1 (p || q) := by
  cases p with
  | false => exact PW.imp (pw_or h1 (h2 rfl)) fun σ H Q ⟨F, B, E, k⟩ => ⟨F, B, E, fun B1 H1 E1 s1 => iteF ⟨F, B1, E1, fun B2 H2 E2 s2 => k B2 H2 E2 (s1.trans s2)⟩⟩
  | true => exact PW.imp (pw_or (tB' := fun _ _ _ => False) h1 ⟨fun _ _ _ _ _ _ _ z => z.elim⟩) fun σ H Q ⟨F, B, E, k⟩ => ⟨F, B, E, fun B1 H1 E1 s1 => iteT (k B1 H1 E1 s1)⟩
theorem jt_not {p : Bool} (h : JT X a δ δ1 p) : JT X (.UnaryOp .Not a pos) δ δ1 (!p) := PT.imp (pt_not h) fun σ H Q ⟨F, B, E, k⟩ => ⟨F, B, E, fun B1 H1 E1 s1 => k B1 H1 E1 s1⟩
theorem JT.eq {p q : Bool} (h : JT X e δ δ1 p) (k : p = q) : JT X e δ δ1 q := by subst k; exact h
/-- a if c else b -/
theorem je_if {c : Expr} {p : Bool} (hc : JT X c δ δ1 p) (h1 : p = true → JE X a δ1 δ2 A) (h2 : p = false → JE X b δ1 δ2 A) : JE X (.IfExp c a b pos) δ δ2 A := by
  cases p with
  | true => exact PE.imp (pe_ifExp (tb := fun _ _ _ => False) hc (h1 rfl) ⟨fun _ _ _ _ _ _ z => z.elim⟩) fun σ H Q ⟨F, B, E, k⟩ => ⟨F, B, E, fun B1 H1 E1 s1 => iteT ⟨F, B1, E1, fun v B2 H2 E2 s2 a2 => k v B2 H2 E2 (s1.trans s2) a2⟩⟩
  | false => exact PE.imp (pe_ifExp (ta := fun _ _ _ => False) hc ⟨fun _ _ _ _ _ _ z => z.elim⟩ (h2 rfl)) fun σ H Q ⟨F, B, E, k⟩ => ⟨F, B, E, fun B1 H1 E1 s1 => iteF ⟨F, B1, E1, fun v B2 H2 E2 s2 a2 => k v B2 H2 E2 (s1.trans s2) a2⟩⟩

/-! ### arguments, displays -/
theorem ja_nil : JA X [] δ δ [] := PA.imp pa_nil fun σ H Q ⟨F, B, E, k⟩ => k [] B H E (Same.refl _) .nil
theorem ja_cons (h1 : JE X e δ δ1 A) (h2 : JA X es δ1 δ2 As) (hs : starEach (e :: es) X.env = (false, eval e X.env) :: starEach es X.env := by rfl) : JA X (e :: es) δ δ2 (A :: As) :=
  PA.imp (pa_cons h1 h2 hs) fun σ H Q ⟨F, B, E, k⟩ => ⟨F, B, E, fun v B1 H1 E1 s1 a1 => ⟨F, B1, E1, fun vs B2 H2 E2 s2 a2 => k (v :: vs) B2 H2 E2 (s1.trans s2) (.cons (A.mono s2 a1) a2)⟩⟩
/-- *e among the items, e data -/
theorem ja_star {p2 : Pos} {d : PyData} {ds : List PyData} (hd : d = .list ds ∨ d = .tuple ds) (h1 : JE X e δ δ1 (aD d)) (h2 : JA X es δ1 δ2 As) (hs : starEach (.Starred e p2 :: es) X.env = (true, eval e X.env) :: starEach es X.env := by rfl) : JA X (.Starred e p2 :: es) δ δ2 (ds.map aD ++ As) :=
  PA.imp (StX.pa_star h1 h2 hs) fun σ H Q ⟨F, B, E, k⟩ => ⟨F, B, E, fun v B1 H1 E1 s1 a1 => by
    obtain ⟨a, xs, ev, hx, dx⟩ : ∃ a xs, v = .ref a ∧ (SqT X.K H1 a xs ∨ SqL X.K H1 a xs) ∧ DdAll B1 xs ds := by
      rcases hd with e | e
      · subst e
        obtain ⟨a, xs, e1, e2, _, e3⟩ := Dd.lst_eq a1
        exact ⟨a, xs, e1, .inr (SqL.of (E1.bh _ _ e2)), e3⟩
      · subst e
        obtain ⟨a, xs, e1, e2, _, e3⟩ := Dd.tup_eq a1
        exact ⟨a, xs, e1, .inl (SqT.of (E1.bh _ _ e2)), e3⟩
    exact ⟨a, xs, ev, hx, F, B1, E1, fun vs B2 H2 E2 s2 a2 => k (xs ++ vs) B2 H2 E2 (s1.trans s2) ((DdAll.mono s2 _ _ dx).all2.append a2)⟩⟩
theorem je_tup {ds : List PyData} {k : Nat} (h : JA X es δ δ1 (ds.map aD)) (hl : ds.length ≤ sizeLine := by exact small (by simp)) : JE X (.Tuple es k pos) δ δ1 (aD (.tuple ds)) :=
  PE.imp (pe_tup h) fun σ H Q ⟨F, B, E, q⟩ => ⟨F, B, E, fun vs B1 H1 E1 s1 a1 => by
    have dv := DdAll.of2 a1
    refine ⟨by rw [dv.len]; exact hl, fun p hp => ?_⟩
    have sB := same_upd (o := .tup vs) (E1.bh.free hp)
    exact q (.ref p) _ _ (E1.laid hp) (s1.trans sB) (.tup upd_same hl (DdAll.mono sB _ _ dv))⟩
/-- a list of such data, one's own -/
def isL (ds : List PyData) : Hp → HO → Prop := fun B o => ∃ vs, o = .lst vs ∧ DdAll B vs ds ∧ ds.length ≤ sizeLine
theorem jn_lst {ds : List PyData} (h : JA X es δ δ1 (ds.map aD)) (hl : ds.length ≤ sizeLine := by exact small (by simp)) : JN X (.List es pos) δ δ1 (isL ds) :=
  PE.imp (pe_lst h) fun σ H Q ⟨F, B, E, q⟩ => ⟨F, B, E, fun vs B1 H1 E1 s1 a1 => by
    have dv := DdAll.of2 a1
    refine ⟨by rw [dv.len]; exact hl, fun p hp => ?_⟩
    exact q p (.lst vs) _ _ (E1.fresh hp) (E1.newOwn hp) s1 ⟨vs, rfl, dv, hl⟩⟩
/-- a list of one's own becomes data -/
theorem JN.dat {ds : List PyData} (h : JN X e δ δ1 (isL ds)) : JE X e δ δ1 (aD (.list ds)) :=
  PE.imp h fun σ H Q ⟨F, B, E, q⟩ => ⟨F, B, E, fun p o B1 H1 f E1 s1 ⟨vs, eo, dv, hl⟩ => by
    subst eo
    have sB := same_upd (o := .lst vs) (E1.fr p _ upd_same).2
    exact q (.ref p) _ _ (E1.freeze f) (s1.trans sB) (.lst upd_same hl (DdAll.mono sB _ _ dv))⟩
theorem je_lst {ds : List PyData} (h : JA X es δ δ1 (ds.map aD)) (hl : ds.length ≤ sizeLine := by exact small (by simp)) : JE X (.List es pos) δ δ1 (aD (.list ds)) := (jn_lst h hl).dat
end
end J
/-! Statements, loops, comprehensions, calls. -/
namespace J
open PySem PySem.Spec L2

/-! ### a list of one's own in a slot -/
def mL (ds : List PyData) : MV := ⟨fun B H v R => ∃ a vs, v = .ref a ∧ R = [a] ∧ H a = some (.lst vs) ∧ DdAll B vs ds ∧ ds.length ≤ sizeLine, fun s k ⟨a, vs, e1, e2, e3, e4, e5⟩ => ⟨a, vs, e1, e2, (k a (by rw [e2]; exact List.mem_singleton.mpr rfl)).trans e3, DdAll.mono s _ _ e4, e5⟩⟩
section
variable {F B H : Hp} {σ : L2.St} {δ : DSt} {i : Nat} {p a : Addr} {v : V} {vs : List V} {ds : List PyData}
/-- what stands guarded goes into a slot -/
theorem Env.setMut {o : HO} {M : MV} (E : Env (upd F p o) B H σ δ) (hF : F p = none) (i : Nat) (hM : M.p B H (.ref p) [p]) : Env F B H (σ.set i (some (.ref p))) (δ.set i (some (.mut M))) := by
  obtain ⟨Rg, e⟩ := E
  obtain ⟨hp, hB⟩ := e.fr p o upd_same
  have hR : ∀ i a, a ∈ Rg i → a ≠ p := fun i a h z => by
    have q := (e.rg i a h).2.2
    rw [z, upd_same] at q
    cases q
  refine ⟨fun j => if j = i then [p] else Rg j, ⟨e.bh, fun a x h => e.fr a x (by rw [upd_ne (ne_of_none h hF)]; exact h), by rw [List.length_set, List.length_set]; exact e.len, fun j c hj => ?_, fun j a h => ?_, fun j k a h1 h2 => ?_, fun a xs z => e.ft a xs (by rw [upd_ne (ne_of_none z hF)]; exact z), fun j a xs h => by
    have h' : a ∈ (if j = i then [p] else Rg j) := h
    by_cases q : j = i
    · rw [if_pos q] at h'
      rw [List.mem_singleton.mp h', hp]
      exact fun z => e.ft p xs (by rw [upd_same]; exact z)
    · rw [if_neg q] at h'
      exact e.rt j a xs h'⟩⟩
  · by_cases q : i = j
    · subst q
      have hl : i < δ.length := by
        by_cases z : i < δ.length
        · exact z
        · rw [List.getElem?_eq_none (by rw [List.length_set]; omega)] at hj
          cases hj
      rw [List.getElem?_set_self hl] at hj
      cases hj
      refine ⟨.ref p, by rw [List.getElem?_set_self (by rw [e.len]; exact hl)], ?_⟩
      rw [if_pos rfl]
      exact hM
    · rw [List.getElem?_set_ne q] at hj
      obtain ⟨u, h1, h2⟩ := e.sl j c hj
      refine ⟨u, by rw [List.getElem?_set_ne q]; exact h1, ?_⟩
      rw [if_neg (Ne.symm q)]
      exact h2
  · by_cases q : j = i
    · rw [if_pos q] at h
      rw [List.mem_singleton.mp h]
      exact ⟨hB, (by rw [hp]; exact fun z => by cases z), hF⟩
    · rw [if_neg q] at h
      obtain ⟨q1, q2, q3⟩ := e.rg j a h
      rw [upd_ne (hR j a h)] at q3
      exact ⟨q1, q2, q3⟩
  · have h1' : a ∈ (if j = i then [p] else Rg j) := h1
    have h2' : a ∈ (if k = i then [p] else Rg k) := h2
    by_cases q : j = i
    · by_cases z : k = i
      · rw [q, z]
      · rw [if_pos q] at h1'
        rw [if_neg z] at h2'
        exact absurd (List.mem_singleton.mp h1') (hR k a h2')
    · by_cases z : k = i
      · rw [if_neg q] at h1'
        rw [if_pos z] at h2'
        exact absurd (List.mem_singleton.mp h2') (hR j a h1')
      · rw [if_neg q] at h1'
        rw [if_neg z] at h2'
        exact e.dj j k a h1' h2'
/-- the list in slot i -/
theorem Env.own (E : Env F B H σ δ) (h : δ[i]? = some (some (.mut (mL ds)))) : ∃ a vs, σ[i]? = some (some (.ref a)) ∧ H a = some (.lst vs) ∧ B a = none ∧ F a = none ∧ DdAll B vs ds ∧ ds.length ≤ sizeLine := by
  obtain ⟨Rg, e⟩ := E
  obtain ⟨v, h1, a, vs, e1, e2, e3, e4, e5⟩ := e.sl i _ h
  obtain ⟨r1, r2, r3⟩ := e.rg i a (by rw [e2]; exact List.mem_singleton.mpr rfl)
  exact ⟨a, vs, by rw [h1, e1], e3, r1, r3, e4, e5⟩
/-- .. is changed -/
theorem Env.upOwn {es : List PyData} {ws : List V} (E : Env F B H σ δ) (h : δ[i]? = some (some (.mut (mL ds)))) (ha : σ[i]? = some (some (.ref a))) (hw : DdAll B ws es) (hl : es.length ≤ sizeLine) : Env F B (upd H a (.lst ws)) σ (δ.set i (some (.mut (mL es)))) := by
  obtain ⟨Rg, e⟩ := E
  obtain ⟨v, h1, a', vs, e1, e2, e3, e4, e5⟩ := e.sl i _ h
  have ea : a' = a := by
    rw [h1, e1] at ha
    cases ha
    rfl
  subst ea
  have hm : a' ∈ Rg i := by rw [e2]; exact List.mem_singleton.mpr rfl
  obtain ⟨r1, r2, r3⟩ := e.rg i a' hm
  refine ⟨Rg, ⟨fun b x hb => ?_, fun b x hb => ?_, by rw [List.length_set]; exact e.len, fun j c hj => ?_, fun j b hb => ?_, e.dj, e.ft, fun j b xs hb => by
    by_cases q : b = a'
    · rw [q, upd_same]
      exact fun z => nomatch z
    · rw [upd_ne q]
      exact e.rt j b xs hb⟩⟩
  · rw [upd_ne (ne_of_none hb r1)]
    exact e.bh b x hb
  · rw [upd_ne (ne_of_none hb r3)]
    exact e.fr b x hb
  · by_cases q : i = j
    · subst q
      have hi : i < δ.length := (List.getElem?_eq_some_iff.mp h).1
      rw [List.getElem?_set_self hi] at hj
      cases hj
      exact ⟨v, h1, a', ws, e1, e2, upd_same, hw, hl⟩
    · rw [List.getElem?_set_ne q] at hj
      obtain ⟨u, k1, k2⟩ := e.sl j c hj
      refine ⟨u, k1, k2.mono (Same.refl B) fun b hb => ?_⟩
      rw [upd_ne fun z => q (e.dj i j a' hm (by rw [← z]; exact hb))]
  · obtain ⟨q1, q2, q3⟩ := e.rg j b hb
    refine ⟨q1, ?_, q3⟩
    by_cases q : b = a'
    · rw [q, upd_same]
      exact fun z => nomatch z
    · rw [upd_ne q]
      exact q2
/-- .. becomes data -/
theorem Env.frzOwn (E : Env F B H σ δ) (h : δ[i]? = some (some (.mut (mL ds)))) : ∃ B', Env F B' H σ (δ.set i (some (.val (aD (.list ds))))) ∧ Same B B' := by
  obtain ⟨Rg, e⟩ := E
  obtain ⟨v, h1, a, vs, e1, e2, e3, e4, e5⟩ := e.sl i _ h
  have hm : a ∈ Rg i := by rw [e2]; exact List.mem_singleton.mpr rfl
  obtain ⟨r1, r2, r3⟩ := e.rg i a hm
  have sB : Same B (upd B a (.lst vs)) := same_upd r1
  refine ⟨upd B a (.lst vs), ⟨fun j => if j = i then [] else Rg j, ⟨fun b x hb => ?_, fun b x hb => ?_, by rw [List.length_set]; exact e.len, fun j c hj => ?_, fun j b hb => ?_, fun j k b h1 h2 => ?_, e.ft, fun j b xs hb => by
    have hb' : b ∈ (if j = i then [] else Rg j) := hb
    by_cases q : j = i
    · rw [if_pos q] at hb'
      cases hb'
    · rw [if_neg q] at hb'
      exact e.rt j b xs hb'⟩⟩, sB⟩
  · by_cases q : b = a
    · subst q
      rw [upd_same] at hb
      cases hb
      exact e3
    · rw [upd_ne q] at hb
      exact e.bh b x hb
  · rw [upd_ne (ne_of_none hb r3)]
    exact e.fr b x hb
  · by_cases q : i = j
    · subst q
      have hi : i < δ.length := (List.getElem?_eq_some_iff.mp h).1
      rw [List.getElem?_set_self hi] at hj
      cases hj
      refine ⟨v, h1, ?_⟩
      show Dd (upd B a (.lst vs)) v (.list ds)
      rw [e1]
      exact .lst upd_same e5 (DdAll.mono sB _ _ e4)
    · rw [List.getElem?_set_ne q] at hj
      obtain ⟨u, k1, k2⟩ := e.sl j c hj
      refine ⟨u, k1, ?_⟩
      rw [if_neg (Ne.symm q)]
      exact k2.mono sB fun b hb => rfl
  · by_cases q : j = i
    · rw [if_pos q] at hb
      exact absurd hb (by simp)
    · rw [if_neg q] at hb
      obtain ⟨q1, q2, q3⟩ := e.rg j b hb
      refine ⟨?_, q2, q3⟩
      rw [upd_ne fun z => q (e.dj i j a hm (by rw [← z]; exact hb)).symm]
      exact q1
  · have h1' : b ∈ (if j = i then [] else Rg j) := h1
    have h2' : b ∈ (if k = i then [] else Rg k) := h2
    by_cases q : j = i
    · rw [if_pos q] at h1'
      exact absurd h1' (by simp)
    · by_cases z : k = i
      · rw [if_pos z] at h2'
        exact absurd h2' (by simp)
      · rw [if_neg q] at h1'
        rw [if_neg z] at h2'
        exact e.dj j k b h1' h2'
end

section
variable {X : Cx} {F B H : Hp} {δ δ1 δ2 δ3 : DSt} {A C Z : AV} {a b e : Expr} {es : List Expr} {pos pos' : Pos} {As : List AV} {st : Stmt} {sts : List Stmt} {O : Out}

/-! ### blocks -/
theorem jb_nil (h : O.nx δ) : JB X [] δ O := PSs.imp pss_nil fun D σ H ⟨F, B, E, n, _, _, _⟩ => n δ σ B H h E (Same.refl _)
theorem jb_cons {M : DSt → Prop} (h1 : JS X st δ { O with nx := M }) (h2 : ∀ δ', M δ' → JB X sts δ' O) : JB X (st :: sts) δ O :=
  PSs.imp (pss_cons h1 pb_any) fun D σ H ⟨F, B, E, n, r, b, c⟩ => ⟨F, B, E, fun δ' σ' B' H' m E' s => ⟨δ', O, h2 δ' m, F, B', E', fun d x y z o e t => n d x y z o e (s.trans t), fun A v y z o f t => r A v y z o f (s.trans t), fun d x y z o e t => b d x y z o e (s.trans t), fun d x y z o e t => c d x y z o e (s.trans t)⟩, r, b, c⟩
theorem jb_one (h : JS X st δ O) : JB X [st] δ O := jb_cons (M := O.nx) h fun δ' m => jb_nil m
/-- one way on -/
theorem jb_then (h1 : JS X st δ { O with nx := fun d => d = δ1 }) (h2 : JB X sts δ1 O) : JB X (st :: sts) δ O := jb_cons h1 fun δ' m => by rw [m]; exact h2
/-- an owned list is read as data from here on -/
theorem jb_frz {ds : List PyData} (i : Nat) (hi : δ[i]? = some (some (.mut (mL ds)))) (h : JB X sts (δ.set i (some (.val (aD (.list ds))))) O) : JB X sts δ O :=
  PSs.imp h fun D σ H ⟨F, B, E, n, r, b, c⟩ => by
    obtain ⟨B1, E1, s⟩ := E.frzOwn hi
    exact ⟨F, B1, E1, fun d x y z o e t => n d x y z o e (s.trans t), fun A v y z o f t => r A v y z o f (s.trans t), fun d x y z o e t => b d x y z o e (s.trans t), fun d x y z o e t => c d x y z o e (s.trans t)⟩
/-- less is known -/
theorem jb_weak {δ' : DSt} (h : JB X sts δ' O) (hl : δ'.length = δ.length) (hw : ∀ (i : Nat) (c : Cell), δ'[i]? = some (some c) → δ[i]? = some (some c)) : JB X sts δ O :=
  PSs.imp h fun D σ H ⟨F, B, E, n, r, b, c⟩ => ⟨F, B, E.weak hl hw, n, r, b, c⟩

/-! ### statements -/
theorem js_set {x : Str} (i : Nat) (he : JE X e δ δ1 A) (k : O.nx (δ1.set i (some (.val A)))) (hN : X.N.Nodup) (hi : X.N[i]? = some x := by rfl) (hx : Loc X.env.scope x := by first | exact Or.inl rfl | exact Or.inr rfl) (hs : swapsWith e (some (.Name x pos')) pos.line X.env = pure false := by rfl)
    (hf : X.fn x = true ∨ X.env.scope.names.lookup x = some .local := by first | exact .inl rfl | exact .inr rfl | assumption) : JS X (.Assign [.Name x pos'] e pos) δ O :=
  PS.imp (ps_set hN hi hx he hs hf) fun D σ H ⟨F, B, E, n, _, _, _⟩ => ⟨F, B, E, fun v B1 H1 E1 s1 a1 => n _ _ B1 H1 k (E1.set i a1) s1⟩
theorem js_setL {x : Str} {ds : List PyData} (i : Nat) (he : JN X e δ δ1 (isL ds)) (k : O.nx (δ1.set i (some (.mut (mL ds))))) (hN : X.N.Nodup) (hi : X.N[i]? = some x := by rfl) (hx : Loc X.env.scope x := by first | exact Or.inl rfl | exact Or.inr rfl) (hs : swapsWith e (some (.Name x pos')) pos.line X.env = pure false := by rfl)
    (hf : X.fn x = true ∨ X.env.scope.names.lookup x = some .local := by first | exact .inl rfl | exact .inr rfl | assumption) : JS X (.Assign [.Name x pos'] e pos) δ O :=
  PS.imp (ps_set hN hi hx he hs hf) fun D σ H ⟨F, B, E, n, _, _, _⟩ => ⟨F, B, E, fun p o B1 H1 f E1 s1 ⟨vs, eo, dv, hl⟩ => by
    subst eo
    exact n _ _ B1 H1 k (E1.setMut f i ⟨p, vs, rfl, rfl, (E1.fr p _ upd_same).1, dv, hl⟩) s1⟩
theorem js_ret (he : JE X e δ δ1 A) (k : O.rt A) (kr : O.rk δ1 := by exact trivial) : JS X (.Return (some e) pos) δ O :=
  PS.imp (ps_ret he) fun D σ H ⟨F, B, E, _, r, _, _⟩ => ⟨F, B, E, fun v B1 H1 E1 s1 a1 => r A v B1 H1 k ⟨σ, δ1, kr, E1⟩ s1 a1⟩
theorem js_expr (he : JE X e δ δ1 A) (k : O.nx δ1) (hs : swapsWith e none pos.line X.env = pure false := by rfl) : JS X (.Expr e pos) δ O :=
  PS.imp (ps_expr he hs) fun D σ H ⟨F, B, E, n, _, _, _⟩ => ⟨F, B, E, fun v B1 H1 E1 s1 a1 => n _ σ B1 H1 k E1 s1⟩
theorem js_pass (k : O.nx δ) : JS X (.Pass pos) δ O := PS.imp ps_pass fun D σ H ⟨F, B, E, n, _, _, _⟩ => n _ σ B H k E (Same.refl _)
theorem js_if {c : Expr} {t u : List Stmt} {p : Bool} (hc : JT X c δ δ1 p) (h1 : p = true → JB X t δ1 O) (h2 : p = false → JB X u δ1 O) : JS X (.If c t u pos) δ O := by
  have mv : ∀ {B B1 : Hp} {D : Ends} {F : Hp}, Same B B1 → (∀ δ' σ' B' H', O.nx δ' → Env F B' H' σ' δ' → Same B B' → D.nx σ' H') → (∀ δ' σ' B' H', O.nx δ' → Env F B' H' σ' δ' → Same B1 B' → D.nx σ' H') := fun s n d x y z o e t => n d x y z o e (s.trans t)
  cases p with
  | true => exact PS.imp (ps_if (u := fun _ _ _ => False) hc (h1 rfl) ⟨fun _ _ _ _ _ _ z => z.elim⟩) fun D σ H ⟨F, B, E, n, r, b, c⟩ => ⟨F, B, E, fun B1 H1 E1 s => iteT ⟨F, B1, E1, fun d x y z o e t => n d x y z o e (s.trans t), fun A v y z o f t => r A v y z o f (s.trans t), fun d x y z o e t => b d x y z o e (s.trans t), fun d x y z o e t => c d x y z o e (s.trans t)⟩⟩
  | false => exact PS.imp (ps_if (t := fun _ _ _ => False) hc ⟨fun _ _ _ _ _ _ z => z.elim⟩ (h2 rfl)) fun D σ H ⟨F, B, E, n, r, b, c⟩ => ⟨F, B, E, fun B1 H1 E1 s => iteF ⟨F, B1, E1, fun d x y z o e t => n d x y z o e (s.trans t), fun A v y z o f t => r A v y z o f (s.trans t), fun d x y z o e t => b d x y z o e (s.trans t), fun d x y z o e t => c d x y z o e (s.trans t)⟩⟩
/-- if c: .. (that does not come back), then the rest -/
theorem jb_ifR {c : Expr} {t : List Stmt} {p : Bool} (hc : JT X c δ δ1 p) (h1 : p = true → JB X t δ1 { O with nx := fun _ => False }) (h2 : p = false → JB X sts δ1 O) : JB X (.If c t [] pos :: sts) δ O :=
  jb_cons (M := fun d => p = false ∧ d = δ1) (js_if hc (fun hp => PSs.imp (h1 hp) fun D σ H ⟨F, B, E, n, r, b, c⟩ => ⟨F, B, E, fun d x y z o => False.elim o, r, b, c⟩) fun hp => jb_nil ⟨hp, rfl⟩) fun δ' ⟨hp, m⟩ => by rw [m]; exact h2 hp
theorem jb_ret (he : JE X e δ δ1 A) (k : O.rt A) (kr : O.rk δ1 := by exact trivial) : JB X (.Return (some e) pos :: sts) δ O := jb_cons (M := fun _ => False) (js_ret he k kr) fun _ z => z.elim
theorem jb_set {x : Str} (i : Nat) (hN : X.N.Nodup) (he : JE X e δ δ1 A) (k : JB X sts (δ1.set i (some (.val A))) O) (hi : X.N[i]? = some x := by rfl) (hx : Loc X.env.scope x := by first | exact Or.inl rfl | exact Or.inr rfl) (hs : swapsWith e (some (.Name x pos')) pos.line X.env = pure false := by rfl)
    (hf : X.fn x = true ∨ X.env.scope.names.lookup x = some .local := by first | exact .inl rfl | exact .inr rfl | assumption) : JB X (.Assign [.Name x pos'] e pos :: sts) δ O := jb_then (js_set i he rfl hN hi hx hs hf) k
theorem jb_setL {x : Str} {ds : List PyData} (i : Nat) (hN : X.N.Nodup) (he : JN X e δ δ1 (isL ds)) (k : JB X sts (δ1.set i (some (.mut (mL ds)))) O) (hi : X.N[i]? = some x := by rfl) (hx : Loc X.env.scope x := by first | exact Or.inl rfl | exact Or.inr rfl) (hs : swapsWith e (some (.Name x pos')) pos.line X.env = pure false := by rfl)
    (hf : X.fn x = true ∨ X.env.scope.names.lookup x = some .local := by first | exact .inl rfl | exact .inr rfl | assumption) : JB X (.Assign [.Name x pos'] e pos :: sts) δ O := jb_then (js_setL i he rfl hN hi hx hs hf) k
/-- name op= e, ints -/
theorem jb_augI {x : Str} {g : Int → Int → Int} {op : Operator} {m n : Int} (i : Nat) (hN : X.N.Nodup) (ho : PIp X op (ipI g)) (hv : δ[i]? = some (some (.val (aI m)))) (he : JE X e δ δ1 (aI n)) (k : JB X sts (δ1.set i (some (.val (aI (g m n))))) O) (hi : X.N[i]? = some x := by rfl)
    (hx : Loc X.env.scope x := by first | exact Or.inl rfl | exact Or.inr rfl) (hf : X.fn x = true ∨ X.env.scope.names.lookup x = some .local := by first | exact .inl rfl | exact .inr rfl | assumption) : JB X (.AugAssign (.Name x pos') op e pos :: sts) δ O := by
  refine jb_then (δ1 := δ1.set i (some (.val (aI (g m n))))) (PS.imp (ps_aug hN hi hx he ho hf) fun D σ H ⟨F, B, E, nx, _, _, _⟩ => ?_) k
  obtain ⟨v, h1, h2⟩ := E.val hv
  exact ⟨v, h1, F, B, E, fun y B1 H1 E1 s1 a1 => ⟨m, n, Dd.int_eq h2, Dd.int_eq a1, nx _ _ B1 H1 rfl (E1.set i (.int _)) s1⟩⟩

/-! ### targets -/
theorem jg_name {x : Str} (i : Nat) (hN : X.N.Nodup) (hi : X.N[i]? = some x := by rfl) (hx : Loc X.env.scope x := by first | exact Or.inl rfl | exact Or.inr rfl) (hf : X.fn x = true ∨ X.env.scope.names.lookup x = some .local := by first | exact .inl rfl | exact .inr rfl | assumption) :
    JG X (.Name x pos) A [i] δ (δ.set i (some (.val A))) := PG.imp (pg_name hN hi hx hf) fun v σ H Q ⟨F, B, E, a, k⟩ => k _ B H (E.set i a) (Same.refl _) (only_set ..)
def tGs (ds : List PyData) (ws : List Nat) (δ δ' : DSt) : TGs := fun vs σ H Q => ∃ F B, Env F B H σ δ ∧ DdAll B vs ds ∧ ∀ σ' B' H', Env F B' H' σ' δ' → Same B B' → Only ws σ σ' → Q σ' H'
def JGs (X : Cx) (ts : List Expr) (ds : List PyData) (ws : List Nat) (δ δ' : DSt) : Prop := PGs X ts (tGs ds ws δ δ')
theorem PGs.imp {ts : List Expr} {t t' : TGs} (h : PGs X ts t) (f : ∀ v σ H Q, t' v σ H Q → t v σ H Q) : PGs X ts t' := ⟨fun pins s σ H v u Q I r q => h.run pins s σ H v u Q I r (f v σ H Q q)⟩
theorem jgs_nil : JGs X [] [] [] δ δ := PGs.imp pgs_nil fun v σ H Q ⟨F, B, E, a, k⟩ => by
  cases a
  exact ⟨rfl, k σ B H E (Same.refl _) (Only.refl _ _)⟩
theorem jgs_cons {d : PyData} {ds : List PyData} {ws ws' : List Nat} (h1 : JG X e (aD d) ws δ δ1) (h2 : JGs X es ds ws' δ1 δ2) (hs : (assignEach (e :: es) X.env).map (·.2) = assign e X.env :: (assignEach es X.env).map (·.2) := by rfl) : JGs X (e :: es) (d :: ds) (ws ++ ws') δ δ2 :=
  PGs.imp (pgs_cons h1 h2 hs) fun v σ H Q ⟨F, B, E, a, k⟩ => by
    cases a with
    | cons a1 a2 => exact ⟨_, _, rfl, F, B, E, a1, fun σ1 B1 H1 E1 s1 o1 => ⟨F, B1, E1, DdAll.mono s1 _ _ a2, fun σ2 B2 H2 E2 s2 o2 => k σ2 B2 H2 E2 (s1.trans s2) (o1.trans o2)⟩⟩
theorem jg_tup {k : Nat} {ds : List PyData} {ws : List Nat} (hc : X.calm = true) (h : JGs X es ds ws δ δ1) (hn : (assignEach es X.env).length = ds.length := by rfl) (hst : (assignEach es X.env).findIdx? (·.1) = none := by rfl) : JG X (.Tuple es k pos) (aD (.tuple ds)) ws δ δ1 :=
  PG.imp (pg_tup hc h hn hst) fun v σ H Q ⟨F, B, E, a, q⟩ => by
    obtain ⟨p, xs, e1, e2, _, e3⟩ := Dd.tup_eq a
    exact ⟨p, xs, e1, SqT.of (E.bh _ _ e2), e3.len, F, B, E, e3, q⟩
/-- target = e, any target -/
theorem jb_asg {tg : Expr} {ws : List Nat} (he : JE X e δ δ1 A) (hg : JG X tg A ws δ1 δ2) (k : JB X sts δ2 O) (hs : swapsWithSole [tg] e pos.line X.env = pure false := by rfl) (hw : swappedStores [tg] e X.env = pure none := by rfl)
    (h1 : (assignEach [tg] X.env).map (·.2) = [assign tg X.env] := by rfl) : JB X (.Assign [tg] e pos :: sts) δ O :=
  jb_then (δ1 := δ2) (PS.imp (ps_asg he hg hs hw h1) fun D σ H ⟨F, B, E, n, _, _, _⟩ => ⟨F, B, E, fun v B1 H1 E1 s1 a1 => ⟨F, B1, E1, a1, fun σ2 B2 H2 E2 s2 _ => n _ σ2 B2 H2 rfl E2 (s1.trans s2)⟩⟩) k
/-- a, b = e1, e2 of plain locals -/
theorem jb_par {x y : Str} {A1 A2 : AV} {px py pt pt2 : Pos} {kt k2 : Nat} (i j : Nat) (hc : X.calm = true) (hN : X.N.Nodup) (ha : JA X [a, b] δ δ1 [A1, A2]) (k : JB X sts ((δ1.set i (some (.val A1))).set j (some (.val A2))) O) (hi : X.N[i]? = some x := by rfl) (hj : X.N[j]? = some y := by rfl) (hij : i ≠ j := by decide)
    (hx : X.env.scope.names.lookup x = some .local := by rfl) (hy : X.env.scope.names.lookup y = some .local := by rfl) (hw : swappedStores [.Tuple [.Name x px, .Name y py] kt pt] (.Tuple [a, b] k2 pt2) X.env = pure (some [x, y]) := by rfl)
    (hs : swapsWithSole [.Tuple [.Name x px, .Name y py] kt pt] (.Tuple [a, b] k2 pt2) pos.line X.env = pure false := by rfl) : JB X (.Assign [.Tuple [.Name x px, .Name y py] kt pt] (.Tuple [a, b] k2 pt2) pos :: sts) δ O :=
  jb_then (δ1 := (δ1.set i (some (.val A1))).set j (some (.val A2))) (PS.imp (ps_par hc hN hi hj hij hx hy ha hw hs) fun D σ H ⟨F, B, E, n, _, _, _⟩ => ⟨F, B, E, fun vs B1 H1 E1 s1 a1 => by
    cases a1 with
    | cons r1 t =>
      cases t with
      | cons r2 t =>
        cases t
        exact ⟨_, _, rfl, n _ _ B1 H1 rfl ((E1.set i r1).set j r2) s1⟩⟩) k

/-! ### for -/
theorem js_for {tg iter : Expr} {body : List Stmt} {xs : List AV} (I : Nat → DSt → Prop) (hi : JI X tg iter δ δ1 xs) (hp : PassesOwn (model X.prog X.w) X.A X.env X.xe) (hc : X.calm = true) (h0 : I 0 δ1)
    (hs : ∀ i A δ', xs[i]? = some A → I i δ' → ∃ ws δ2, JG X tg A ws δ' δ2 ∧ JB X body δ2 { O with nx := I (i + 1), ct := I (i + 1), bk := O.nx }) (hd : ∀ δ', I xs.length δ' → O.nx δ') (hf : ∀ x, foldedSetIterable iter X.env x = pure x := by intro _; rfl) : JS X (.For tg iter body [] pos) δ O :=
  PS.imp (ps_for hp hc hi pg_any pb_any hf) fun D σ H ⟨F, B, E, n, r, _, _⟩ => ⟨F, B, E, fun J B1 H1 E1 s1 wk _ => by
    refine ⟨fun i m σ' H' => m = xs.length - i ∧ i ≤ xs.length ∧ ∃ δ' B', I i δ' ∧ Env F B' H' σ' δ' ∧ Same B1 B', ⟨xs.length, rfl, Nat.zero_le _, δ1, B1, h0, E1, Same.refl _⟩, ?_⟩
    rintro i m σ' H' ⟨rfl, hi', δ', B', hI, E', s'⟩
    obtain ⟨w1, w2⟩ := wk i B' H' s' E'.bh
    by_cases hlt : i < xs.length
    · obtain ⟨g, y⟩ := w2 xs[i] (List.getElem?_eq_getElem hlt)
      obtain ⟨ws, δ2, hg, hb⟩ := hs i xs[i] δ' (List.getElem?_eq_getElem hlt) hI
      refine .inr ⟨g, fun σ3 H3 => ∃ δ3 B3, I (i + 1) δ3 ∧ Env F B3 H3 σ3 δ3 ∧ Same B1 B3, fun σ3 H3 ⟨δ3, B3, q1, q2, q3⟩ => ⟨xs.length - (i + 1), by omega, rfl, hlt, δ3, B3, q1, q2, q3⟩, fun x H2 hy => ?_⟩
      have go : ∀ B2, Env F B2 H2 σ' δ' → Same B' B2 → (xs[i]).p B2 x → gAny X tg x σ' H2 fun σ2 H2 => bAny X body { D with nx := fun σ3 H3 => ∃ δ3 B3, I (i + 1) δ3 ∧ Env F B3 H3 σ3 δ3 ∧ Same B1 B3, ct := fun σ3 H3 => ∃ δ3 B3, I (i + 1) δ3 ∧ Env F B3 H3 σ3 δ3 ∧ Same B1 B3, bk := D.nx } σ2 H2 := fun B2 E2 s2 a2 =>
        ⟨_, ws, δ', δ2, hg, F, B2, E2, a2, fun σ3 B3 H3 E3 s3 _ => ⟨δ2, _, hb, F, B3, E3, fun d x y z o e t => ⟨d, y, o, e, ((s'.trans s2).trans s3).trans t⟩, fun A v y z o f t => r A v y z o f ((((s1.trans s').trans s2).trans s3).trans t),
          fun d x y z o e t => n d x y z o e ((((s1.trans s').trans s2).trans s3).trans t), fun d x y z o e t => ⟨d, y, o, e, ((s'.trans s2).trans s3).trans t⟩⟩⟩
      rcases y x H2 hy with ⟨e, a2⟩ | ⟨T, o, hT, e, a2⟩
      · subst e
        exact go B' E' (Same.refl _) a2
      · subst e
        exact go _ (E'.laid hT) (same_upd (E'.bh.free hT)) a2
    · have e : i = xs.length := by omega
      subst e
      exact .inl ⟨w1 (Nat.le_refl _), n δ' σ' B' H' (hd δ' hI) E' (s1.trans s')⟩⟩
/-- while: W by a measure -/
theorem js_while {c : Expr} {body : List Stmt} (W : Nat → DSt → Prop) (hp : PassesOwn (model X.prog X.w) X.A X.env X.xe) {m0 : Nat} (h0 : W m0 δ)
    (hs : ∀ m δ', W m δ' → ∃ δ2 p, JT X c δ' δ2 p ∧ (p = true → JB X body δ2 { O with nx := fun d => ∃ m', m' < m ∧ W m' d, ct := fun d => ∃ m', m' < m ∧ W m' d, bk := O.nx }) ∧ (p = false → O.nx δ2)) : JS X (.While c body [] pos) δ O :=
  PS.imp (ps_while hp pt_any pb_any) fun D σ H ⟨F, B, E, n, r, _, _⟩ => by
    refine ⟨fun m σ' H' => ∃ δ' B', W m δ' ∧ Env F B' H' σ' δ' ∧ Same B B', ⟨m0, δ, B, h0, E, Same.refl _⟩, ?_⟩
    rintro m σ' H' ⟨δ', B', hW, E', s'⟩
    obtain ⟨δ2, p, hc, h1, h2⟩ := hs m δ' hW
    refine ⟨δ', δ2, p, hc, F, B', E', fun B1 H1 E1 s1 => ?_⟩
    cases p with
    | true =>
      refine iteT ⟨fun σ3 H3 => ∃ m', m' < m ∧ ∃ δ3 B3, W m' δ3 ∧ Env F B3 H3 σ3 δ3 ∧ Same B B3, fun σ3 H3 ⟨m', q1, q2⟩ => ⟨m', q1, q2⟩, δ2, _, h1 rfl, F, B1, E1, ?_, fun A v y z o f t => r A v y z o f ((s'.trans s1).trans t), fun d x y z o e t => n d x y z o e ((s'.trans s1).trans t), ?_⟩
      · rintro d x y z ⟨m', q1, q2⟩ e t
        exact ⟨m', q1, d, y, q2, e, (s'.trans s1).trans t⟩
      · rintro d x y z ⟨m', q1, q2⟩ e t
        exact ⟨m', q1, d, y, q2, e, (s'.trans s1).trans t⟩
    | false => exact iteF (n δ2 σ' B1 H1 (h2 rfl) E1 (s'.trans s1))
end
end J
/-! Comprehensions, what is walked, defs and their calls. -/
namespace J
open PySem PySem.Spec L2

/-- in every block of a comprehension of that scope -/
def Bk (X : Cx) (scope : Scope) (P : Cx → Prop) : Prop := ∀ (s : Shared) (H : Hp) (C : Addr) (cl : List (Str × Addr)) (fp : List Addr), P (X.blk s H scope (compEnvC scope cl C X.env) fp)
def JTs (X : Cx) (ifs : List Expr) (δ δ' : DSt) (b : Bool) : Prop := PTs X ifs (tT δ δ' b)
theorem PTs.imp {X : Cx} {ifs : List Expr} {t t' : TT} (h : PTs X ifs t) (f : ∀ σ H Q, t' σ H Q → t σ H Q) : PTs X ifs t' := ⟨fun pins s σ H Q I q => h.run pins s σ H Q I (f σ H Q q)⟩
theorem jts_nil {X : Cx} {δ : DSt} : JTs X [] δ δ true := PTs.imp pts_nil fun σ H Q ⟨F, B, E, k⟩ => k B H E (Same.refl _)
theorem jts_one {X : Cx} {c : Expr} {δ δ' : DSt} {b : Bool} (h : JT X c δ δ' b) : JTs X [c] δ δ' b := pts_one h
section
variable {X : Cx} {scope : Scope}
def gAnyB (X : Cx) (scope : Scope) (tg : Expr) : TG := fun v σ H Q => ∃ A ws δ δ', Bk X scope (fun Y => JG Y tg A ws δ δ') ∧ tG A ws δ δ' v σ H Q
theorem pg_anyB {tg : Expr} : Bk X scope fun Y => PG Y tg (gAnyB X scope tg) := fun s0 H0 C cl fp => ⟨fun pins s σ H v u Q I r ⟨A, ws, δ, δ', j, q⟩ => (j s0 H0 C cl fp).run pins s σ H v u Q I r q⟩
def tAnyB (X : Cx) (scope : Scope) (ifs : List Expr) : TT := fun σ H Q => ∃ δ δ' b, Bk X scope (fun Y => JTs Y ifs δ δ' b) ∧ tT δ δ' b σ H Q
theorem pt_anyB {ifs : List Expr} : Bk X scope fun Y => PTs Y ifs (tAnyB X scope ifs) := fun s0 H0 C cl fp => ⟨fun pins s σ H Q I ⟨δ, δ', b, j, q⟩ => (j s0 H0 C cl fp).run pins s σ H Q I q⟩
def eAnyB (X : Cx) (scope : Scope) (e : Expr) : TE := fun σ H Q => ∃ δ δ' A, Bk X scope (fun Y => JE Y e δ δ' A) ∧ tE δ δ' A σ H Q
theorem pe_anyB {e : Expr} : Bk X scope fun Y => PE Y e (eAnyB X scope e) := fun s0 H0 C cl fp => ⟨fun pins s σ H Q I ⟨δ, δ', b, j, q⟩ => (j s0 H0 C cl fp).run pins s σ H Q I q⟩
def iAnyB (X : Cx) (scope : Scope) (tg e : Expr) : TI := fun σ H R => ∃ δ δ' xs, Bk X scope (fun Y => JI Y tg e δ δ' xs) ∧ tI δ δ' xs σ H R
theorem pi_anyB {tg e : Expr} : Bk X scope fun Y => PI Y tg e (iAnyB X scope tg e) := fun s0 H0 C cl fp => ⟨fun pins s σ H R I ⟨δ, δ', xs, j, q⟩ => (j s0 H0 C cl fp).run pins s σ H R I q⟩
end

/-- one turn of a comprehension -/
def LcTurn (X : Cx) (scope : Scope) (tg elt : Expr) (ifs : List Expr) (vs : List Nat) (A : AV) (δ δ' : DSt) (o o' : List PyData) : Prop :=
  ∃ ws δ2 δ3 b, (∀ j ∈ ws, j ∈ vs) ∧ Bk X scope (fun Y => JG Y tg A ws δ δ2) ∧ Bk X scope (fun Y => JTs Y ifs δ2 δ3 b) ∧
    (b = true → ∃ δ4 d, Bk X scope (fun Y => JE Y elt δ3 δ4 (aD d)) ∧ dwipe δ4 vs = δ' ∧ o' = o ++ [d]) ∧ (b = false → dwipe δ3 vs = δ' ∧ o' = o)

section
variable {X : Cx} {tg iter elt : Expr} {ifs : List Expr} {scope : Scope} {own : List (Str × Nat)} {pos : Pos} {δ δ1 : DSt} {xs : List AV}
theorem len_turn {δ δ' : DSt} {A : AV} {vs : List Nat} {o o' : List PyData} (h : LcTurn X scope tg elt ifs vs A δ δ' o o') : o.length ≤ o'.length ∧ o'.length ≤ o.length + 1 := by
  obtain ⟨ws, δ2, δ3, b, _, _, _, h1, h2⟩ := h
  cases b with
  | true =>
    obtain ⟨_, d, _, _, e⟩ := h1 rfl
    rw [e, List.length_append, List.length_singleton]
    omega
  | false =>
    rw [(h2 rfl).2]
    omega
/-- the whole, by a state and a list so far for each turn -/
theorem lc_read {vs : List Nat} (δs : Nat → DSt) (outs : Nat → List PyData) (h0 : δs 0 = dwipe δ1 vs) (o0 : outs 0 = []) (ht : ∀ i A, xs[i]? = some A → LcTurn X scope tg elt ifs vs A (δs i) (δs (i + 1)) (outs i) (outs (i + 1))) :
    ∀ σ H Q, tN δ (δs xs.length) (isL (outs xs.length)) σ H Q → tLc (tI δ δ1 xs) (gAnyB X scope tg) (tAnyB X scope ifs) (eAnyB X scope elt) vs σ H Q := fun σ H Q ⟨F, B, E, q⟩ => ⟨F, B, E, fun J B1 H1 E1 s1 wk hz => fun D hD => by
  have hF : F D = none := E1.fresh hD
  refine ⟨fun i m H' => m = xs.length - i ∧ i ≤ xs.length ∧ (outs i).length ≤ i ∧ ∃ B' acc, Env (upd F D (.lst acc)) B' H' (L2.wipe σ vs) (δs i) ∧ Same B1 B' ∧ DdAll B' acc (outs i),
    ⟨xs.length, rfl, Nat.zero_le _, by rw [o0]; exact Nat.zero_le _, B1, [], by rw [h0]; exact (E1.wipe vs).newOwn hD, Same.refl _, by rw [o0]; exact .nil⟩, ?_⟩
  rintro i m H' ⟨rfl, hi, hl, B', acc, E', s', da⟩
  obtain ⟨w1, w2⟩ := wk i B' H' s' E'.bh
  by_cases hlt : i < xs.length
  · obtain ⟨g, y⟩ := w2 xs[i] (List.getElem?_eq_getElem hlt)
    have T := ht i xs[i] (List.getElem?_eq_getElem hlt)
    have hl2 := (len_turn T).2
    obtain ⟨ws, δ2, δ3, b, hws, hg, htt, hb1, hb2⟩ := T
    refine .inr ⟨g, fun H3 => ∃ B3 acc3, Env (upd F D (.lst acc3)) B3 H3 (L2.wipe σ vs) (δs (i + 1)) ∧ Same B1 B3 ∧ DdAll B3 acc3 (outs (i + 1)), fun H3 h3 => ⟨xs.length - (i + 1), by omega, rfl, hlt, by omega, h3⟩, fun x H2 hy => ?_⟩
    have go : ∀ B2, Env (upd F D (.lst acc)) B2 H2 (L2.wipe σ vs) (δs i) → Same B' B2 → (xs[i]).p B2 x → gAnyB X scope tg x (L2.wipe σ vs) H2 fun σ2 H2 => L2.wipe σ2 vs = L2.wipe σ vs ∧ tAnyB X scope ifs σ2 H2 fun b H3 =>
        if b = true then eAnyB X scope elt σ2 H3 fun y H4 => ∃ acc, H4 D = some (.lst acc) ∧ acc.length < sizeLine ∧ ∃ B3 acc3, Env (upd F D (.lst acc3)) B3 (upd H4 D (.lst (acc ++ [y]))) (L2.wipe σ vs) (δs (i + 1)) ∧ Same B1 B3 ∧ DdAll B3 acc3 (outs (i + 1))
        else ∃ B3 acc3, Env (upd F D (.lst acc3)) B3 H3 (L2.wipe σ vs) (δs (i + 1)) ∧ Same B1 B3 ∧ DdAll B3 acc3 (outs (i + 1)) := fun B2 E2 s2 a2 =>
      ⟨_, ws, _, δ2, hg, _, B2, E2, a2, fun σ3 B3 H3 E3 s3 on => by
        have hwp : L2.wipe σ3 vs = L2.wipe σ vs := (wipe_only on hws).trans (wipe_wipe σ vs)
        refine ⟨hwp, δ2, δ3, b, htt, _, B3, E3, fun B4 H4 E4 s4 => ?_⟩
        cases b with
        | true =>
          obtain ⟨δ4, d, he, e4, eo⟩ := hb1 rfl
          refine iteT ⟨δ3, δ4, aD d, he, _, B4, E4, fun z B5 H5 E5 s5 a5 => ?_⟩
          have hH := E5.fr D _ upd_same
          refine ⟨acc, hH.1, ?_, B5, acc ++ [z], ?_, ((((s'.trans s2).trans s3).trans s4).trans s5), ?_⟩
          · rw [da.len]
            omega
          · have E6 := (E5.reOwn (o' := .lst (acc ++ [z]))).wipe vs
            rw [hwp, e4] at E6
            exact E6
          · rw [eo]
            exact (DdAll.mono ((((s2.trans s3).trans s4).trans s5)) _ _ da).append (.cons a5 .nil)
        | false =>
          obtain ⟨e4, eo⟩ := hb2 rfl
          refine iteF ⟨B4, acc, ?_, ((s'.trans s2).trans s3).trans s4, ?_⟩
          · have E6 := E4.wipe vs
            rw [hwp, e4] at E6
            exact E6
          · rw [eo]
            exact DdAll.mono ((s2.trans s3).trans s4) _ _ da⟩
    rcases hy' : y x H2 hy with ⟨e, a2⟩ | ⟨T, o, hT, e, a2⟩
    · subst e
      exact go B' E' (Same.refl _) a2
    · subst e
      exact go _ (E'.laid hT) (same_upd (E'.bh.free hT)) a2
  · have e : i = xs.length := by omega
    subst e
    refine .inl ⟨w1 (Nat.le_refl _), q D (.lst acc) B' H' hF ?_ (s1.trans s') ⟨acc, rfl, da, by omega⟩⟩
    exact E'.unwipe⟩
theorem jn_lcG (δs : Nat → DSt) (outs : Nat → List PyData) (hi : JI X tg iter δ δ1 xs) (h0 : δs 0 = dwipe δ1 (own.map (·.2))) (o0 : outs 0 = []) (ht : ∀ i A, xs[i]? = some A → LcTurn X scope tg elt ifs (own.map (·.2)) A (δs i) (δs (i + 1)) (outs i) (outs (i + 1)))
    (hc : X.calm = true) (hN : X.N.Nodup) (ok : BlkOk X.N X.env.scope scope own) (hs : ∀ x, foldedSetIterable iter X.env x = pure x := by intro _; rfl) : JN X (.ListComp elt [⟨tg, iter, ifs, 0⟩] scope pos) δ (δs xs.length) (isL (outs xs.length)) :=
  PE.imp (pe_lc hc hN hi ok pg_anyB pt_anyB pe_anyB hs) (lc_read δs outs h0 o0 ht)
/-- y = [..], y a local, the list data or one's own -/
theorem js_lcG {y : Str} {py spos : Pos} {O : Out} (i : Nat) (δs : Nat → DSt) (outs : Nat → List PyData) (hi : JI X tg iter δ δ1 xs) (h0 : δs 0 = dwipe δ1 (own.map (·.2))) (o0 : outs 0 = []) (ht : ∀ i A, xs[i]? = some A → LcTurn X scope tg elt ifs (own.map (·.2)) A (δs i) (δs (i + 1)) (outs i) (outs (i + 1)))
    (k : O.nx ((δs xs.length).set i (some (.mut (mL (outs xs.length)))))) (hc : X.calm = true) (hN : X.N.Nodup) (ok : BlkOk X.N X.env.scope scope own) (hy : X.N[i]? = some y) (hyl : X.env.scope.names.lookup y = some .local) (hsw : swapsWith (.ListComp elt [⟨tg, iter, ifs, 0⟩] scope pos) (some (.Name y py)) spos.line X.env = pure true)
    (hs : ∀ x, foldedSetIterable iter X.env x = pure x := by intro _; rfl) : JS X (.Assign [.Name y py] (.ListComp elt [⟨tg, iter, ifs, 0⟩] scope pos) spos) δ O :=
  PS.imp (ps_setLc hc hN hy hyl hsw hi ok pg_anyB pt_anyB pe_anyB hs) fun D σ H ⟨F, B, E, n, _, _, _⟩ => lc_read δs outs h0 o0 ht σ H _ ⟨F, B, E, fun p o B1 H1 f E1 s1 ⟨vs, eo, dv, hl⟩ => by
    subst eo
    exact n _ _ B1 H1 k (E1.setMut f i ⟨p, vs, rfl, rfl, (E1.fr p _ upd_same).1, dv, hl⟩) s1⟩
end

/-! ### the usual comprehension: over data, the state as it was -/
section
variable {X : Cx} {tg iter elt : Expr} {ifs : List Expr} {scope : Scope} {own : List (Str × Nat)} {pos : Pos} {δ δ1 : DSt} {α : Type}
theorem take_snoc {β : Type} {xs : List α} {i : Nat} {x : α} (h : xs[i]? = some x) (p : α → Bool) (f : α → β) : ((xs.take (i + 1)).filter p).map f = ((xs.take i).filter p).map f ++ (if p x then [f x] else []) := by
  rw [List.take_add_one, h, List.filter_append, List.map_append]
  show _ ++ (([x]).filter p).map f = _
  by_cases q : p x = true
  · rw [List.filter_cons_of_pos q, if_pos q]
    rfl
  · rw [List.filter_cons_of_neg q, if_neg q]
    rfl
theorem turnT {xs : List α} {enc : α → PyData} {st : α → DSt} {p : α → Bool} {f : α → PyData} {ws : List Nat} {δw : DSt} {vs : List Nat} (hws : ∀ j ∈ ws, j ∈ vs) (hG : ∀ x ∈ xs, Bk X scope fun Y => JG Y tg (aD (enc x)) ws δw (st x)) (hT : ∀ x ∈ xs, Bk X scope fun Y => JTs Y ifs (st x) (st x) (p x))
    (hE : ∀ x ∈ xs, p x = true → Bk X scope fun Y => JE Y elt (st x) (st x) (aD (f x))) (hw : ∀ x, dwipe (st x) vs = δw) :
    ∀ i A, (xs.map fun x => aD (enc x))[i]? = some A → LcTurn X scope tg elt ifs vs A δw δw (((xs.take i).filter p).map f) (((xs.take (i + 1)).filter p).map f) := fun i A hA => by
  rw [List.getElem?_map] at hA
  cases hx : xs[i]? with
  | none => rw [hx] at hA; cases hA
  | some x =>
    rw [hx] at hA
    cases hA
    have hm := List.mem_of_getElem? hx
    refine ⟨ws, st x, st x, p x, hws, hG x hm, hT x hm, fun hp => ⟨st x, f x, hE x hm hp, hw x, ?_⟩, fun hp => ⟨hw x, ?_⟩⟩
    · rw [take_snoc hx, if_pos hp]
    · rw [take_snoc hx, if_neg (by rw [hp]; exact Bool.false_ne_true), List.append_nil]
theorem jn_lc (xs : List α) (enc : α → PyData) (st : α → DSt) (p : α → Bool) (f : α → PyData) {ws : List Nat} (hi : JI X tg iter δ δ1 (xs.map fun x => aD (enc x))) (ok : BlkOk X.N X.env.scope scope own) (hG : ∀ x ∈ xs, Bk X scope fun Y => JG Y tg (aD (enc x)) ws (dwipe δ1 (own.map (·.2))) (st x))
    (hT : ∀ x ∈ xs, Bk X scope fun Y => JTs Y ifs (st x) (st x) (p x)) (hE : ∀ x ∈ xs, p x = true → Bk X scope fun Y => JE Y elt (st x) (st x) (aD (f x))) (hc : X.calm = true) (hN : X.N.Nodup) (hws : ∀ j ∈ ws, j ∈ own.map (·.2) := by decide) (hw : ∀ x, dwipe (st x) (own.map (·.2)) = dwipe δ1 (own.map (·.2)) := by intro _; rfl)
    (hs : ∀ x, foldedSetIterable iter X.env x = pure x := by intro _; rfl) : JN X (.ListComp elt [⟨tg, iter, ifs, 0⟩] scope pos) δ (dwipe δ1 (own.map (·.2))) (isL ((xs.filter p).map f)) := by
  have h := jn_lcG (elt := elt) (ifs := ifs) (own := own) (pos := pos) (fun _ => dwipe δ1 (own.map (·.2))) (fun i => ((xs.take i).filter p).map f) hi rfl rfl (turnT hws hG hT hE hw) hc hN ok hs
  rw [List.length_map, List.take_length] at h
  exact h
theorem js_lc {y : Str} {py spos : Pos} {O : Out} (i : Nat) (xs : List α) (enc : α → PyData) (st : α → DSt) (p : α → Bool) (f : α → PyData) {ws : List Nat} (hi : JI X tg iter δ δ1 (xs.map fun x => aD (enc x))) (ok : BlkOk X.N X.env.scope scope own) (hG : ∀ x ∈ xs, Bk X scope fun Y => JG Y tg (aD (enc x)) ws (dwipe δ1 (own.map (·.2))) (st x))
    (hT : ∀ x ∈ xs, Bk X scope fun Y => JTs Y ifs (st x) (st x) (p x)) (hE : ∀ x ∈ xs, p x = true → Bk X scope fun Y => JE Y elt (st x) (st x) (aD (f x))) (k : O.nx ((dwipe δ1 (own.map (·.2))).set i (some (.mut (mL ((xs.filter p).map f))))))
    (hc : X.calm = true) (hN : X.N.Nodup) (hws : ∀ j ∈ ws, j ∈ own.map (·.2) := by decide) (hw : ∀ x, dwipe (st x) (own.map (·.2)) = dwipe δ1 (own.map (·.2)) := by intro _; rfl) (hy : X.N[i]? = some y := by rfl) (hyl : X.env.scope.names.lookup y = some .local := by rfl)
    (hsw : swapsWith (.ListComp elt [⟨tg, iter, ifs, 0⟩] scope pos) (some (.Name y py)) spos.line X.env = pure true := by exact sw_true rfl rfl rfl (by decide +kernel)) (hs : ∀ x, foldedSetIterable iter X.env x = pure x := by intro _; rfl) : JS X (.Assign [.Name y py] (.ListComp elt [⟨tg, iter, ifs, 0⟩] scope pos) spos) δ O := by
  refine js_lcG i (fun _ => dwipe δ1 (own.map (·.2))) (fun i => ((xs.take i).filter p).map f) hi rfl rfl (turnT hws hG hT hE hw) ?_ hc hN ok hy hyl hsw hs
  rw [List.length_map, List.take_length]
  exact k
/-- y = [..], the list read as data from here on -/
theorem jb_lc {y : Str} {py spos : Pos} {O : Out} {sts : List Stmt} (i : Nat) (xs : List α) (enc : α → PyData) (st : α → DSt) (p : α → Bool) (f : α → PyData) {ws : List Nat} (hi : JI X tg iter δ δ1 (xs.map fun x => aD (enc x))) (ok : BlkOk X.N X.env.scope scope own) (hG : ∀ x ∈ xs, Bk X scope fun Y => JG Y tg (aD (enc x)) ws (dwipe δ1 (own.map (·.2))) (st x))
    (hT : ∀ x ∈ xs, Bk X scope fun Y => JTs Y ifs (st x) (st x) (p x)) (hE : ∀ x ∈ xs, p x = true → Bk X scope fun Y => JE Y elt (st x) (st x) (aD (f x))) (hil : i < (dwipe δ1 (own.map (·.2))).length) (k : JB X sts ((dwipe δ1 (own.map (·.2))).set i (some (.val (aD (.list ((xs.filter p).map f)))))) O)
    (hc : X.calm = true) (hN : X.N.Nodup) (hws : ∀ j ∈ ws, j ∈ own.map (·.2) := by decide) (hw : ∀ x, dwipe (st x) (own.map (·.2)) = dwipe δ1 (own.map (·.2)) := by intro _; rfl) (hy : X.N[i]? = some y := by rfl) (hyl : X.env.scope.names.lookup y = some .local := by rfl)
    (hsw : swapsWith (.ListComp elt [⟨tg, iter, ifs, 0⟩] scope pos) (some (.Name y py)) spos.line X.env = pure true := by exact sw_true rfl rfl rfl (by decide +kernel)) (hs : ∀ x, foldedSetIterable iter X.env x = pure x := by intro _; rfl) : JB X (.Assign [.Name y py] (.ListComp elt [⟨tg, iter, ifs, 0⟩] scope pos) spos :: sts) δ O :=
  jb_then (js_lc i xs enc st p f hi ok hG hT hE rfl hc hN hws hw hy hyl hsw hs) (jb_frz i (List.getElem?_set_self hil) (by rw [List.set_set]; exact k))
end

/-! ### what is walked -/
section
variable {X : Cx} {tg e e2 : Expr} {pos p : Pos} {δ δ1 δ2 : DSt} {ds es : List PyData}
theorem walks_list {K : PySem.W.Frag} {B : Hp} {a : Addr} {xs : List V} (h : B a = some (.lst xs)) (d : DdAll B xs ds) : Walks (Itl K a) B (ds.map aD) := fun i B1 H1 s s' => ⟨fun hi => ⟨xs, SqL.of (s' _ _ (s _ _ h)), by rw [d.len]; rw [List.length_map] at hi; exact hi⟩, fun A hA => by
  rw [List.getElem?_map] at hA
  cases hx : ds[i]? with
  | none => rw [hx] at hA; cases hA
  | some x =>
    rw [hx] at hA
    cases hA
    obtain ⟨v, h1, h2⟩ := d.get hx
    refine ⟨⟨xs, v, SqL.of (s' _ _ (s _ _ h)), h1⟩, fun y H2 ⟨e, hy⟩ => .inl ⟨e, ?_⟩⟩
    have e2 := hy xs (SqL.of (s' _ _ (s _ _ h)))
    rw [h1] at e2
    cases e2
    exact Dd.mono s _ _ h2⟩
theorem walks_tup {K : PySem.W.Frag} {B : Hp} {a : Addr} {xs : List V} (h : B a = some (.tup xs)) (d : DdAll B xs ds) : Walks (Itt K a) B (ds.map aD) := fun i B1 H1 s s' => ⟨fun hi => ⟨xs, SqT.of (s' _ _ (s _ _ h)), by rw [d.len]; rw [List.length_map] at hi; exact hi⟩, fun A hA => by
  rw [List.getElem?_map] at hA
  cases hx : ds[i]? with
  | none => rw [hx] at hA; cases hA
  | some x =>
    rw [hx] at hA
    cases hA
    obtain ⟨v, h1, h2⟩ := d.get hx
    refine ⟨⟨xs, v, SqT.of (s' _ _ (s _ _ h)), h1⟩, fun y H2 ⟨e, hy⟩ => .inl ⟨e, ?_⟩⟩
    have e2 := hy xs (SqT.of (s' _ _ (s _ _ h)))
    rw [h1] at e2
    cases e2
    exact Dd.mono s _ _ h2⟩
theorem ji_list (h : JE X e δ δ1 (aD (.list ds))) : JI X tg e δ δ1 (ds.map aD) :=
  PI.imp (pi_list h) fun σ H R ⟨F, B, E, q⟩ => ⟨F, B, E, fun v B1 H1 E1 s1 a1 => by
    obtain ⟨a, xs, e1, e2, hl, e3⟩ := Dd.lst_eq a1
    exact ⟨a, e1, ⟨xs, SqL.of (E1.bh _ _ e2)⟩, q _ B1 H1 E1 s1 (walks_list e2 e3) (by rw [List.length_map]; exact hl)⟩⟩
theorem ji_tup (h : JE X e δ δ1 (aD (.tuple ds))) : JI X tg e δ δ1 (ds.map aD) :=
  PI.imp (pi_tup h) fun σ H R ⟨F, B, E, q⟩ => ⟨F, B, E, fun v B1 H1 E1 s1 a1 => by
    obtain ⟨a, xs, e1, e2, hl, e3⟩ := Dd.tup_eq a1
    exact ⟨a, e1, ⟨xs, SqT.of (E1.bh _ _ e2)⟩, q _ B1 H1 E1 s1 (walks_tup e2 e3) (by rw [List.length_map]; exact hl)⟩⟩
theorem ji_range {n : Int} (hm : X.mg "range" = none) (h : JE X e δ δ1 (aI n)) (hn : 0 ≤ n ∧ n ≤ 1000) (hg : Gl X "range" := by rfl) (hs : starEach [e] X.env = (false, eval e X.env) :: starEach [] X.env := by rfl) : JI X tg (.Call (.Name "range" p) [e] [] pos) δ δ1 ((List.range n.toNat).map fun (i : Nat) => aI (i : Int)) :=
  PI.imp (pi_range1 hg hm (ja_cons h ja_nil hs) hs) fun σ H R ⟨F, B, E, q⟩ => ⟨F, B, E, fun vs B1 H1 E1 s1 a1 => by
    cases a1 with
    | cons r t =>
      cases t
      refine ⟨n, by rw [Dd.int_eq r], by omega, by omega, q _ B1 H1 E1 s1 (fun i B2 H2 s s' => ⟨fun hi => ?_, fun A hA => ?_⟩) ?_⟩
      · rw [List.length_map, List.length_range] at hi
        exact hi
      · rw [List.getElem?_map] at hA
        by_cases hi : i < n.toNat
        · rw [List.getElem?_range hi] at hA
          cases hA
          refine ⟨hi, fun x H3 ⟨e1, e2⟩ => .inl ⟨e1, ?_⟩⟩
          rw [e2, Int.zero_add]
          exact .int _
        · rw [List.getElem?_eq_none (by rw [List.length_range]; omega)] at hA
          cases hA
      · rw [List.length_map, List.length_range]
        exact small (by omega)⟩
/-- zip of two lists, of two tuples -/
theorem walks_zip {K : PySem.W.Frag} {B : Hp} {a b : Addr} {xs ys : List V} (h : B a = some (.lst xs)) (h' : B b = some (.lst ys)) (d : DdAll B xs ds) (d' : DdAll B ys es) : Walks (Itz K a b) B ((ds.zip es).map fun q => aD (.tuple [q.1, q.2])) := fun i B1 H1 s s' => ⟨fun hi => ⟨xs, ys, SqL.of (s' _ _ (s _ _ h)), SqL.of (s' _ _ (s _ _ h')), by
    rw [List.length_map, List.length_zip] at hi
    rw [d.len, d'.len]
    omega⟩, fun A hA => by
  rw [List.getElem?_map] at hA
  cases hx : (ds.zip es)[i]? with
  | none => rw [hx] at hA; cases hA
  | some x =>
    rw [hx] at hA
    cases hA
    obtain ⟨k1, k2⟩ := List.getElem?_zip_eq_some.mp hx
    obtain ⟨v, h1, h2⟩ := d.get k1
    obtain ⟨u, h3, h4⟩ := d'.get k2
    have l1 := SqL.of (K := K) (s' _ _ (s _ _ h))
    have l2 := SqL.of (K := K) (s' _ _ (s _ _ h'))
    refine ⟨⟨xs, ys, v, u, l1, l2, h1, h3⟩, fun y H2 ⟨T, x1, x2, ey, hT, e2, f1, f2⟩ => .inr ⟨T, .tup [x1, x2], hT, e2, ?_⟩⟩
    have e3 := f1 xs l1
    have e4 := f2 ys l2
    rw [h1] at e3
    rw [h3] at e4
    cases e3
    cases e4
    rw [ey]
    have sB : Same B (upd B1 T (.tup [v, u])) := s.trans (same_upd (s'.free hT))
    exact .tup upd_same (small (by simp)) (.cons (Dd.mono sB _ _ h2) (.cons (Dd.mono sB _ _ h4) .nil))⟩
theorem walks_zipT {K : PySem.W.Frag} {B : Hp} {a b : Addr} {xs ys : List V} (h : B a = some (.tup xs)) (h' : B b = some (.tup ys)) (d : DdAll B xs ds) (d' : DdAll B ys es) : Walks (RZ.ItzT K a b) B ((ds.zip es).map fun q => aD (.tuple [q.1, q.2])) := fun i B1 H1 s s' => ⟨fun hi => ⟨xs, ys, SqT.of (s' _ _ (s _ _ h)), SqT.of (s' _ _ (s _ _ h')), by
    rw [List.length_map, List.length_zip] at hi
    rw [d.len, d'.len]
    omega⟩, fun A hA => by
  rw [List.getElem?_map] at hA
  cases hx : (ds.zip es)[i]? with
  | none => rw [hx] at hA; cases hA
  | some x =>
    rw [hx] at hA
    cases hA
    obtain ⟨k1, k2⟩ := List.getElem?_zip_eq_some.mp hx
    obtain ⟨v, h1, h2⟩ := d.get k1
    obtain ⟨u, h3, h4⟩ := d'.get k2
    have l1 := SqT.of (K := K) (s' _ _ (s _ _ h))
    have l2 := SqT.of (K := K) (s' _ _ (s _ _ h'))
    refine ⟨⟨xs, ys, v, u, l1, l2, h1, h3⟩, fun y H2 ⟨T, x1, x2, ey, hT, e2, f1, f2⟩ => .inr ⟨T, .tup [x1, x2], hT, e2, ?_⟩⟩
    have e3 := f1 xs l1
    have e4 := f2 ys l2
    rw [h1] at e3
    rw [h3] at e4
    cases e3
    cases e4
    rw [ey]
    have sB : Same B (upd B1 T (.tup [v, u])) := s.trans (same_upd (s'.free hT))
    exact .tup upd_same (small (by simp)) (.cons (Dd.mono sB _ _ h2) (.cons (Dd.mono sB _ _ h4) .nil))⟩
theorem zip_len {B : Hp} : (∀ {α β : Type} {l : List α} {m : List β}, l.length ≤ sizeLine → (l.zip m).length ≤ sizeLine) := fun h => by
  rw [List.length_zip]
  exact Nat.le_trans (Nat.min_le_left _ _) h
theorem ji_zip {elts : List Expr} {kk : Nat} {tpos : Pos} (hm : X.mg "zip" = none) (h : JE X e δ δ1 (aD (.list ds))) (h' : JE X e2 δ1 δ2 (aD (.list es))) (hg : Gl X "zip" := by rfl) (hs : starEach [e, e2] X.env = (false, eval e X.env) :: starEach [e2] X.env := by rfl) (hpl : (backTo pos (starEach [e2] X.env)).any (·.1) = false := by rfl)
    (hs2 : starEach [e2] X.env = (false, eval e2 X.env) :: starEach [] X.env := by rfl) : JI X (.Tuple elts kk tpos) (.Call (.Name "zip" p) [e, e2] [] pos) δ δ2 ((ds.zip es).map fun q => aD (.tuple [q.1, q.2])) :=
  PI.imp (RZ.pi_zipA hg hm (ja_cons h (ja_cons h' ja_nil hs2) hs) hs hpl) fun σ H R ⟨F, B, E, q⟩ => ⟨F, B, E, fun vs B1 H1 E1 s1 a1 => by
    cases a1 with
    | cons r t =>
      cases t with
      | cons r' t =>
        cases t
        obtain ⟨a, xs, e1, e2, hl, e3⟩ := Dd.lst_eq r
        obtain ⟨b, ys, f1, f2, hl', f3⟩ := Dd.lst_eq r'
        refine ⟨a, b, xs, ys, by rw [e1, f1], .inl ⟨SqL.of (E1.bh _ _ e2), SqL.of (E1.bh _ _ f2), q _ B1 H1 E1 s1 (walks_zip e2 f2 e3 f3) ?_⟩⟩
        rw [List.length_map]
        exact zip_len (B := B) hl⟩
theorem ji_zipT {elts : List Expr} {kk : Nat} {tpos : Pos} (hm : X.mg "zip" = none) (h : JE X e δ δ1 (aD (.tuple ds))) (h' : JE X e2 δ1 δ2 (aD (.tuple es))) (hg : Gl X "zip" := by rfl) (hs : starEach [e, e2] X.env = (false, eval e X.env) :: starEach [e2] X.env := by rfl) (hpl : (backTo pos (starEach [e2] X.env)).any (·.1) = false := by rfl)
    (hs2 : starEach [e2] X.env = (false, eval e2 X.env) :: starEach [] X.env := by rfl) : JI X (.Tuple elts kk tpos) (.Call (.Name "zip" p) [e, e2] [] pos) δ δ2 ((ds.zip es).map fun q => aD (.tuple [q.1, q.2])) :=
  PI.imp (RZ.pi_zipA hg hm (ja_cons h (ja_cons h' ja_nil hs2) hs) hs hpl) fun σ H R ⟨F, B, E, q⟩ => ⟨F, B, E, fun vs B1 H1 E1 s1 a1 => by
    cases a1 with
    | cons r t =>
      cases t with
      | cons r' t =>
        cases t
        obtain ⟨a, xs, e1, e2, hl, e3⟩ := Dd.tup_eq r
        obtain ⟨b, ys, f1, f2, hl', f3⟩ := Dd.tup_eq r'
        refine ⟨a, b, xs, ys, by rw [e1, f1], .inr ⟨SqT.of (E1.bh _ _ e2), SqT.of (E1.bh _ _ f2), q _ B1 H1 E1 s1 (walks_zipT e2 f2 e3 f3) ?_⟩⟩
        rw [List.length_map]
        exact zip_len (B := B) hl⟩
end
end J
/-! Defs and their calls; built-in functions on data. -/
namespace J
open PySem PySem.Spec L2

/-! ### a def's promise: what it hands back, by its arguments -/
abbrev Rl := List AV → AV → Prop
def TupIn (B H : Hp) : Prop := ∀ a xs, H a = some (.tup xs) → B a = some (.tup xs)
def spJ (R : Rl) : Sp := fun vs H Q _ => ∃ B As Z, (Same B H ∧ TupIn B H) ∧ All2 (fun (A : AV) v => A.p B v) As vs ∧ R As Z ∧
  ∀ v B' H', Same B B' → Same B' H' → (∀ a o, H a = some o → B a = none → H' a = some o ∧ B' a = none) → Z.p B' v → Q v H'
def d0 (N : List Str) (As : List AV) : DSt := As.map (fun A => some (Cell.val A)) ++ List.replicate (N.length - As.length) none
/-- hand back such a thing -/
def Ret (Z : AV) : Out := { rt := fun A => ∀ B v, A.p B v → Z.p B v, nx := fun _ => ∀ B, Z.p B .non }
theorem Ret.same {Z : AV} : (Ret Z).rt Z := fun _ _ h => h
theorem env_start {N : List Str} {B H : Hp} {As : List AV} {vs : List V} (s : Same B H ∧ TupIn B H) (h : All2 (fun (A : AV) v => A.p B v) As vs) : Env (rest B H) B H (L2.start N vs) (d0 N As) := by
  refine ⟨fun _ => [], ⟨s.1, fun a o => rest_some, ?_, fun i c hi => ?_, (fun i a h => by cases h), (fun i j a h => by cases h), (fun a xs z => by
    obtain ⟨z1, z2⟩ := rest_some z
    rw [s.2 a xs z1] at z2
    cases z2), (fun i a xs h => by cases h)⟩⟩
  · unfold L2.start d0
    rw [List.length_append, List.length_append, List.length_map, List.length_map, List.length_replicate, List.length_replicate, h.length]
  · unfold d0 at hi
    unfold L2.start
    have hl := h.length
    by_cases q : i < As.length
    · rw [List.getElem?_append_left (by rw [List.length_map]; exact q), List.getElem?_map, List.getElem?_eq_getElem q] at hi
      cases hi
      obtain ⟨v, h1, h2⟩ := h.get (List.getElem?_eq_getElem q)
      refine ⟨v, ?_, h2⟩
      rw [List.getElem?_append_left (by rw [List.length_map]; omega), List.getElem?_map, h1]
      rfl
    · rw [List.getElem?_append_right (by rw [List.length_map]; omega)] at hi
      obtain ⟨_, e⟩ := List.getElem?_eq_some_iff.mp hi
      rw [List.getElem_replicate] at e
      cases e
section
variable {P : Program} {w : World} {K : PySem.W.Frag} {mg : Str → Option Value} {base : Heap}
theorem fn_j {x qual : Str} {st : Stmt} {f : Addr} {fd : FuncData} {N ps : List Str} {k : Nat} {R : Rl} (F : Fun K x qual st f fd) (S : FnScope N ps (defScope st)) (hl : ∀ As Z, R As Z → As.length = ps.length)
    (body : ∀ (cdv : Value) (A : Around) (outer : List PySem.Env) (s : Shared) (H : Hp) (E : XK) (As : List AV) (Z : AV), Room k (A.deeper (PyProof.Rows.envOfC qual (defScope st) s.heap.objs.size f cdv)) → R As Z →
      JB (cxOf CX0 P w K mg base N qual (defScope st) f cdv A outer s H E).nox (defBody st) (d0 N As) (Ret Z)) : FnOk P w K mg base CX0 (k + 1) f fd ps (spJ R) := by
  refine F.ok S (fun vs H Q E ⟨B, As, Z, _, h, r, _⟩ => by rw [← h.length]; exact hl As Z r) fun cdv A outer s H vs Q E hr ⟨B, As, Z, sB, h, r, q⟩ => ⟨_, body cdv A outer s H E As Z hr r, rest B H, B, env_start sB h, ?_, ?_, ?_, ?_⟩
  · intro δ' σ' B' H' hn E' s'
    exact q .non B' H' s' E'.bh (fun a o h1 h2 => E'.fr a o (rest_of h1 h2)) (hn B')
  · intro A' v B' H' hr' f' s' a'
    obtain ⟨σ', δ', _, E'⟩ := f'
    exact q v B' H' s' E'.bh (fun a o h1 h2 => E'.fr a o (rest_of h1 h2)) (hr' B' v a')
  · exact fun _ _ _ _ z => z.elim
  · exact fun _ _ _ _ z => z.elim
/-- a def of the text under its name -/
structure Cal (P : Program) (w : World) (K : PySem.W.Frag) (mg : Str → Option Value) (base : Heap) (k : Nat) (x : Str) (R : Rl) : Prop where
  ex : ∃ f fd ps, FnOk P w K mg base CX0 k f fd ps (spJ R) ∧ mg x = some (.ref f) ∧ PySem.W.keepIn K (.ref f) = true ∧ Binds K fd ps []
theorem Cal.mono {j k : Nat} {x : Str} {R : Rl} (C : Cal P w K mg base j x R) (h : j ≤ k) : Cal P w K mg base k x R := by
  obtain ⟨f, fd, ps, h1, h2, h3, h4⟩ := C.ex
  exact ⟨f, fd, ps, h1.mono h, h2, h3, h4⟩
end
section
variable {X : Cx} {F B B' H H' : Hp} {δ δ1 δ2 δ3 : DSt} {A C Z : AV} {a b e : Expr} {es : List Expr} {pos p : Pos} {As : List AV} {ds : List PyData}
theorem je_call {x : Str} {k j : Nat} {R : Rl} (Cl : Cal X.prog X.w X.K X.mg X.base k x R) (hr : Room j X.A) (hk : k ≤ j) (ha : JA X (e :: es) δ δ1 As) (h : R As Z) (hg : Gl X x := by rfl) (hdb : (x == ("__debug__" : Str)) = false := by decide)
    (he : starEach (e :: es) X.env = (false, eval e X.env) :: starEach es X.env := by rfl) (hpl : (backTo pos (starEach es X.env)).any (·.1) = false := by rfl) : JE X (.Call (.Name x p) (e :: es) [] pos) δ δ1 Z := by
  obtain ⟨f, fd, ps, h1, h2, h3, h4⟩ := Cl.ex
  exact PE.imp (pe_call h1 (hr.mono hk) hg h2 h3 h4 .nil pass0 ha hdb he hpl) fun σ H Q ⟨F, B, E, q⟩ => ⟨F, B, E, fun vs B1 H1 E1 s1 a1 => by
    refine (show spJ R (vs ++ []) H1 Q E0 from ?_)
    rw [List.append_nil]
    have E2 := E1.tups
    obtain ⟨t1, t2⟩ := tups_same E1.bh
    exact ⟨tups B1 H1, As, Z, ⟨t2, fun a xs => tupB_of⟩, a1.imp fun A v => A.mono t1, h, fun v B2 H2 s2 s3 k2 z => q v B2 H2 (E2.step s2 s3 k2) ((s1.trans t1).trans s2) z⟩⟩

/-! ### built-in functions -/
theorem tCB_ok {r : List V → Hp → VK → Prop} (hr : RCl r As Z) : ∀ σ H Q, tE δ δ1 Z σ H Q → tCB r (tA δ δ1 As) σ H Q := fun σ H Q ⟨F, B, E, q⟩ => ⟨F, B, E, fun vs B1 H1 E1 s1 a1 => hr B1 H1 vs Q E1.bh a1 fun z B2 H2 g hz =>
  let ⟨E2, s2⟩ := g.env E1
  q z B2 H2 E2 (s1.trans s2) hz⟩
theorem je_B {x : Str} {id : String} {r : List V → Hp → VK → Prop} (hc : CallR X (.builtin id) r) (hv : bootBuiltins x = some (.builtin id)) (hm : X.mg x = none) (hr : RCl r As Z) (ha : JA X (e :: es) δ δ1 As) (hg : Gl X x := by rfl) (hn : x ≠ "__name__" := by decide) (hdb : (x == ("__debug__" : Str)) = false := by decide)
    (he : starEach (e :: es) X.env = (false, eval e X.env) :: starEach es X.env := by rfl) (hpl : (backTo pos (starEach es X.env)).any (·.1) = false := by rfl) : JE X (.Call (.Name x p) (e :: es) [] pos) δ δ1 Z := PE.imp (pe_callB hc hg hm hv ha hn hdb he hpl) (tCB_ok hr)
theorem je_Ty {x : Str} {T : String} {r : List V → Hp → VK → Prop} (hc : CallR X (.type T) r) (hv : bootBuiltins x = some (.type T)) (hm : X.mg x = none) (hr : RCl r As Z) (ha : JA X (e :: es) δ δ1 As) (hg : Gl X x := by rfl) (hn : x ≠ "__name__" := by decide) (hdb : (x == ("__debug__" : Str)) = false := by decide)
    (he : starEach (e :: es) X.env = (false, eval e X.env) :: starEach es X.env := by rfl) (hpl : (backTo pos (starEach es X.env)).any (·.1) = false := by rfl) : JE X (.Call (.Name x p) (e :: es) [] pos) δ δ1 Z := PE.imp (pe_callTy hc hg hm hv ha hn hdb he hpl) (tCB_ok hr)
theorem all2_one {B : Hp} {vs : List V} (h : All2 (fun (A : AV) v => A.p B v) [A] vs) : ∃ v, vs = [v] ∧ A.p B v := by
  cases h with
  | cons r t =>
    cases t
    exact ⟨_, rfl, r⟩
theorem all2_two {B : Hp} {vs : List V} (h : All2 (fun (A : AV) v => A.p B v) [A, C] vs) : ∃ u v, vs = [u, v] ∧ A.p B u ∧ C.p B v := by
  cases h with
  | cons r t =>
    cases t with
    | cons r' t =>
      cases t
      exact ⟨_, _, rfl, r, r'⟩
theorem bools_of {B : Hp} : ∀ {xs : List V} {bs : List Bool}, DdAll B xs (bs.map PyData.bool) → xs = bs.map V.bl
  | [], [], _ => rfl
  | [], b :: bs, h => by cases h
  | x :: xs, [], h => by cases h
  | x :: xs, b :: bs, h => by
    cases h with
    | cons r t =>
      rw [Dd.bl_eq r, bools_of t]
      rfl
theorem ints_of {B : Hp} : ∀ {xs : List V} {bs : List Int}, DdAll B xs (bs.map PyData.int) → xs = bs.map V.int
  | [], [], _ => rfl
  | [], b :: bs, h => by cases h
  | x :: xs, [], h => by cases h
  | x :: xs, b :: bs, h => by
    cases h with
    | cons r t =>
      rw [Dd.int_eq r, ints_of t]
      rfl
theorem strs_of {B : Hp} : ∀ {xs : List V} {bs : List Str}, DdAll B xs (bs.map PyData.str) → xs = bs.map V.str
  | [], [], _ => rfl
  | [], b :: bs, h => by cases h
  | x :: xs, [], h => by cases h
  | x :: xs, b :: bs, h => by
    cases h with
    | cons r t =>
      rw [Dd.str_eq r, strs_of t]
      rfl
theorem starOne {e : Expr} : True := True.intro
theorem je_any {bs : List Bool} (hm : X.mg "any" = none) (hc : X.calm = true) (h : JE X e δ δ1 (aD (.list (bs.map .bool)))) (hg : Gl X "any" := by rfl) (he : starEach [e] X.env = (false, eval e X.env) :: starEach [] X.env := by rfl) : JE X (.Call (.Name "any" p) [e] [] pos) δ δ1 (aB (bs.any id)) :=
  je_B (cr_any hc) PyProof.Rows.boot_any hm (fun B H vs Q s aa q => by
    obtain ⟨v, rfl, hv⟩ := all2_one aa
    obtain ⟨a, xs, rfl, e2, _, e3⟩ := Dd.lst_eq hv
    exact ⟨a, bs, rfl, by rw [← bools_of e3]; exact SqL.of (s _ _ e2), q _ B H (.refl B H) (.bl _)⟩) (ja_cons h ja_nil he) hg (by decide) (by decide) he rfl
theorem je_all {bs : List Bool} (hm : X.mg "all" = none) (hc : X.calm = true) (h : JE X e δ δ1 (aD (.list (bs.map .bool)))) (hg : Gl X "all" := by rfl) (he : starEach [e] X.env = (false, eval e X.env) :: starEach [] X.env := by rfl) : JE X (.Call (.Name "all" p) [e] [] pos) δ δ1 (aB (bs.all id)) :=
  je_B (cr_all hc) PyProof.Rows.boot_all hm (fun B H vs Q s aa q => by
    obtain ⟨v, rfl, hv⟩ := all2_one aa
    obtain ⟨a, xs, rfl, e2, _, e3⟩ := Dd.lst_eq hv
    exact ⟨a, bs, rfl, by rw [← bools_of e3]; exact SqL.of (s _ _ e2), q _ B H (.refl B H) (.bl _)⟩) (ja_cons h ja_nil he) hg (by decide) (by decide) he rfl
theorem je_lenL (hm : X.mg "len" = none) (h : JE X e δ δ1 (aD (.list ds))) (hg : Gl X "len" := by rfl) (he : starEach [e] X.env = (false, eval e X.env) :: starEach [] X.env := by rfl) : JE X (.Call (.Name "len" p) [e] [] pos) δ δ1 (aI ds.length) :=
  je_B call_len_seq boot_len hm (fun B H vs Q s aa q => by
    obtain ⟨v, rfl, hv⟩ := all2_one aa
    obtain ⟨a, xs, rfl, e2, _, e3⟩ := Dd.lst_eq hv
    exact ⟨a, xs, rfl, .inl (SqL.of (s _ _ e2)), by rw [e3.len]; exact q _ B H (.refl B H) (.int _)⟩) (ja_cons h ja_nil he) hg (by decide) (by decide) he rfl
theorem je_lenT (hm : X.mg "len" = none) (h : JE X e δ δ1 (aD (.tuple ds))) (hg : Gl X "len" := by rfl) (he : starEach [e] X.env = (false, eval e X.env) :: starEach [] X.env := by rfl) : JE X (.Call (.Name "len" p) [e] [] pos) δ δ1 (aI ds.length) :=
  je_B call_len_seq boot_len hm (fun B H vs Q s aa q => by
    obtain ⟨v, rfl, hv⟩ := all2_one aa
    obtain ⟨a, xs, rfl, e2, _, e3⟩ := Dd.tup_eq hv
    exact ⟨a, xs, rfl, .inr (SqT.of (s _ _ e2)), by rw [e3.len]; exact q _ B H (.refl B H) (.int _)⟩) (ja_cons h ja_nil he) hg (by decide) (by decide) he rfl
theorem je_tupleL (hm : X.mg "tuple" = none) (h : JE X e δ δ1 (aD (.list ds))) (hg : Gl X "tuple" := by rfl) (he : starEach [e] X.env = (false, eval e X.env) :: starEach [] X.env := by rfl) : JE X (.Call (.Name "tuple" p) [e] [] pos) δ δ1 (aD (.tuple ds)) :=
  je_Ty call_tuple_of PyProof.Rows.boot_tuple hm (fun B H vs Q s aa q => by
    obtain ⟨v, rfl, hv⟩ := all2_one aa
    obtain ⟨a, xs, rfl, e2, hl, e3⟩ := Dd.lst_eq hv
    exact ⟨a, xs, rfl, .inl ⟨SqL.of (s _ _ e2), fun l hl' => q _ _ _ (.one hl') (.tup upd_same hl (DdAll.mono (same_upd (s.free hl')) _ _ e3))⟩⟩) (ja_cons h ja_nil he) hg (by decide) (by decide) he rfl
theorem je_tupleT (hm : X.mg "tuple" = none) (h : JE X e δ δ1 (aD (.tuple ds))) (hg : Gl X "tuple" := by rfl) (he : starEach [e] X.env = (false, eval e X.env) :: starEach [] X.env := by rfl) : JE X (.Call (.Name "tuple" p) [e] [] pos) δ δ1 (aD (.tuple ds)) :=
  je_Ty call_tuple_of PyProof.Rows.boot_tuple hm (fun B H vs Q s aa q => by
    obtain ⟨v, rfl, hv⟩ := all2_one aa
    obtain ⟨a, xs, rfl, e2, hl, e3⟩ := Dd.tup_eq hv
    exact ⟨a, xs, rfl, .inr ⟨SqT.of (s _ _ e2), q _ B H (.refl B H) (.tup e2 hl e3)⟩⟩) (ja_cons h ja_nil he) hg (by decide) (by decide) he rfl
/-- list(..): a list of one's own -/
theorem jn_list {d : PyData} (hd : d = .list ds ∨ d = .tuple ds) (hm : X.mg "list" = none) (h : JE X e δ δ1 (aD d)) (hg : Gl X "list" := by rfl) (he : starEach [e] X.env = (false, eval e X.env) :: starEach [] X.env := by rfl) : JN X (.Call (.Name "list" p) [e] [] pos) δ δ1 (isL ds) :=
  PE.imp (pe_callTy call_list_of hg hm PyProof.Rows.boot_list (ja_cons h ja_nil he) (by decide) (by decide) he rfl) fun σ H Q ⟨F, B, E, q⟩ => ⟨F, B, E, fun vs B1 H1 E1 s1 a1 => by
    obtain ⟨v, rfl, hv⟩ := all2_one a1
    obtain ⟨a, xs, rfl, hx, hl, dx⟩ : ∃ a xs, v = .ref a ∧ (SqL X.K H1 a xs ∨ SqT X.K H1 a xs) ∧ ds.length ≤ sizeLine ∧ DdAll B1 xs ds := by
      rcases hd with e | e
      · subst e
        obtain ⟨a, xs, e1, e2, hl, e3⟩ := Dd.lst_eq hv
        exact ⟨a, xs, e1, .inl (SqL.of (E1.bh _ _ e2)), hl, e3⟩
      · subst e
        obtain ⟨a, xs, e1, e2, hl, e3⟩ := Dd.tup_eq hv
        exact ⟨a, xs, e1, .inr (SqT.of (E1.bh _ _ e2)), hl, e3⟩
    exact ⟨a, xs, rfl, hx, fun l hl' => q l _ B1 _ (E1.fresh hl') (E1.newOwn hl') s1 ⟨xs, rfl, dx, hl⟩⟩⟩

/-! ### in -/
def flatD : PyData → Bool
  | .none => true
  | .bool _ => true
  | .int _ => true
  | .str _ => true
  | _ => false
def eqF : PyData → PyData → Bool
  | .none, .none => true
  | .bool a, .bool b => a == b
  | .bool a, .int b => (if a then 1 else 0) == b
  | .int a, .bool b => a == (if b then 1 else 0)
  | .int a, .int b => a == b
  | .str a, .str b => a == b
  | _, _ => false
theorem Dd.flat {B : Hp} {v : V} {d : PyData} (h : Dd B v d) (f : flatD d = true) : flatV v = true := by
  cases h <;> first | rfl | cases f
theorem Dd.eqF {B : Hp} {v u : V} {d e : PyData} (h : Dd B v d) (h' : Dd B u e) (f : flatD d = true) (f' : flatD e = true) : eqV v u = J.eqF d e := by
  cases h <;> first | (cases h' <;> first | rfl | cases f') | cases f
theorem DdAll.flat {B : Hp} : ∀ {xs : List V} {ds : List PyData}, DdAll B xs ds → ds.all flatD = true → xs.all flatV = true
  | _, _, .nil, _ => rfl
  | _, _, .cons r t, f => by
    rw [List.all_cons, Bool.and_eq_true] at f ⊢
    exact ⟨r.flat f.1, t.flat f.2⟩
theorem DdAll.inV {B : Hp} {u : V} {e : PyData} (h' : Dd B u e) (f' : flatD e = true) : ∀ {xs : List V} {ds : List PyData}, DdAll B xs ds → ds.all flatD = true → L2.inV u xs = ds.any fun y => J.eqF y e
  | _, _, .nil, _ => rfl
  | _, _, .cons r t, f => by
    rw [List.all_cons, Bool.and_eq_true] at f
    have ih := DdAll.inV h' f' t f.2
    show (eqV _ u || L2.inV u _) = _
    rw [ih, r.eqF h' f.1 f']
    rfl
theorem rop_in {d c : PyData} {neg : Bool} (hd : c = .list ds ∨ c = .tuple ds) (f : flatD d = true) (fs : ds.all flatD = true) : ROp (rIn X.K neg) (aD d) (aD c) (aB (if neg then !(ds.any fun y => eqF y d) else ds.any fun y => eqF y d)) := fun B H x y Q s h1 h2 q => by
  obtain ⟨a, xs, rfl, hx, dx⟩ : ∃ a xs, y = .ref a ∧ (SqL X.K H a xs ∨ SqT X.K H a xs) ∧ DdAll B xs ds := by
    rcases hd with e | e
    · subst e
      obtain ⟨a, xs, e1, e2, hl, e3⟩ := Dd.lst_eq h2
      exact ⟨a, xs, e1, .inl (SqL.of (s _ _ e2)), e3⟩
    · subst e
      obtain ⟨a, xs, e1, e2, hl, e3⟩ := Dd.tup_eq h2
      exact ⟨a, xs, e1, .inr (SqT.of (s _ _ e2)), e3⟩
  refine ⟨a, xs, rfl, hx, Dd.flat h1 f, dx.flat fs, ?_⟩
  rw [DdAll.inV h1 f dx fs]
  exact q _ B H (.refl B H) (.bl _)
theorem je_in {d c : PyData} (hd : c = .list ds ∨ c = .tuple ds) (ha : JE X a δ δ1 (aD d)) (hb : JE X b δ1 δ2 (aD c)) (f : flatD d = true) (fs : ds.all flatD = true) (hm : behindInMarks .In b = false := by rfl) : JE X (.Compare a [.In] [b] pos) δ δ2 (aB (ds.any fun y => eqF y d)) :=
  je_cmp op_in_seq (rop_in (neg := false) hd f fs) ha hb hm
theorem je_notin {d c : PyData} (hd : c = .list ds ∨ c = .tuple ds) (ha : JE X a δ δ1 (aD d)) (hb : JE X b δ1 δ2 (aD c)) (f : flatD d = true) (fs : ds.all flatD = true) (hm : behindInMarks .NotIn b = false := by rfl) : JE X (.Compare a [.NotIn] [b] pos) δ δ2 (aB (!(ds.any fun y => eqF y d))) :=
  je_cmp op_notIn_seq (rop_in (neg := true) hd f fs) ha hb hm
theorem jt_in {d c : PyData} (hd : c = .list ds ∨ c = .tuple ds) (ha : JE X a δ δ1 (aD d)) (hb : JE X b δ1 δ2 (aD c)) (f : flatD d = true) (fs : ds.all flatD = true) (hm : behindInMarks .In b = false := by rfl) : JT X (.Compare a [.In] [b] pos) δ δ2 (ds.any fun y => eqF y d) :=
  jt_cmp op_in_seq (rop_in (neg := false) hd f fs) ha hb hm
theorem jt_notin {d c : PyData} (hd : c = .list ds ∨ c = .tuple ds) (ha : JE X a δ δ1 (aD d)) (hb : JE X b δ1 δ2 (aD c)) (f : flatD d = true) (fs : ds.all flatD = true) (hm : behindInMarks .NotIn b = false := by rfl) : JT X (.Compare a [.NotIn] [b] pos) δ δ2 (!(ds.any fun y => eqF y d)) :=
  jt_cmp op_notIn_seq (rop_in (neg := true) hd f fs) ha hb hm

/-! ### items, slices -/
theorem atD {B : Hp} {xs : List V} {d : PyData} {i : Int} (h : DdAll B xs ds) (e : atI ds i = some d) : ∃ v, atI xs i = some v ∧ Dd B v d := by
  unfold atI at e ⊢
  rw [h.len]
  cases q : ixN ds.length i with
  | none => rw [q] at e; cases e
  | some j =>
    rw [q] at e
    obtain ⟨v, h1, h2⟩ := h.get (show ds[j]? = some d from e)
    exact ⟨v, h1, h2⟩
theorem je_ixL {d : PyData} {i : Int} (ha : JE X a δ δ1 (aD (.list ds))) (hb : JE X b δ1 δ2 (aI i)) (h : atI ds i = some d) (hs : PlainIx b := by exact fun _ _ => rfl) : JE X (.Subscript a b pos) δ δ2 (aD d) :=
  je_ix ix_list (fun B H x y Q s h1 h2 q => by
    obtain ⟨a, xs, rfl, e2, hl, e3⟩ := Dd.lst_eq h1
    obtain ⟨v, h3, h4⟩ := atD e3 h
    exact ⟨a, xs, i, v, rfl, Dd.int_eq h2, SqL.of (s _ _ e2), h3, q _ B H (.refl B H) h4⟩) ha hb hs
theorem je_ixT {d : PyData} {i : Int} (ha : JE X a δ δ1 (aD (.tuple ds))) (hb : JE X b δ1 δ2 (aI i)) (h : atI ds i = some d) (hs : PlainIx b := by exact fun _ _ => rfl) : JE X (.Subscript a b pos) δ δ2 (aD d) :=
  je_ix ix_tup (fun B H x y Q s h1 h2 q => by
    obtain ⟨a, xs, rfl, e2, hl, e3⟩ := Dd.tup_eq h1
    obtain ⟨v, h3, h4⟩ := atD e3 h
    exact ⟨a, xs, i, v, rfl, Dd.int_eq h2, SqT.of (s _ _ e2), h3, q _ B H (.refl B H) h4⟩) ha hb hs
def cutD (ds : List PyData) (lo hi : Option Int) : List PyData := (ds.drop (HT.sIx ds.length 0 lo)).take (HT.sIx ds.length ds.length hi - HT.sIx ds.length 0 lo)
theorem cutD_len (lo hi : Option Int) : (cutD ds lo hi).length ≤ ds.length := by
  unfold cutD
  rw [List.length_take, List.length_drop]
  omega
theorem DdAll.cut {B : Hp} {xs : List V} (h : DdAll B xs ds) (lo hi : Option Int) : DdAll B (cutV xs lo hi) (cutD ds lo hi) := by
  unfold cutV cutD
  rw [h.len]
  exact (h.drop _).take _
theorem cutD_from (k : Nat) : cutD ds (some (k : Int)) none = ds.drop k := by
  unfold cutD
  rw [HT.sIx_nat, HT.sIx_none]
  by_cases h : k ≤ ds.length
  · rw [Nat.min_eq_left h]
    exact List.take_of_length_le (by rw [List.length_drop]; exact Nat.le_refl _)
  · rw [Nat.min_eq_right (by omega), List.drop_eq_nil_of_le (Nat.le_refl _), List.drop_eq_nil_of_le (by omega), List.take_nil]
theorem cutD_to (k : Nat) : cutD ds none (some (k : Int)) = ds.take k := by
  unfold cutD
  rw [HT.sIx_nat, HT.sIx_none, List.drop_zero, Nat.sub_zero]
  by_cases h : k ≤ ds.length
  · rw [Nat.min_eq_left h]
  · rw [Nat.min_eq_right (by omega), List.take_of_length_le (Nat.le_refl _), List.take_of_length_le (by omega)]
def tOi (δ δ' : DSt) (o : Option Int) : TO := fun σ H Q => ∃ F B, Env F B H σ δ ∧ ∀ B' H', Env F B' H' σ δ' → Same B B' → Q o H'
theorem PO.imp {e : Option Expr} {t t' : TO} (h : PO X e t) (f : ∀ σ H Q, t' σ H Q → t σ H Q) : PO X e t' := ⟨fun pins s σ H Q I q => h.run pins s σ H Q I (f σ H Q q)⟩
def JO (X : Cx) (e : Option Expr) (δ δ' : DSt) (o : Option Int) : Prop := PO X e (tOi δ δ' o)
theorem jo_none : JO X none δ δ none := PO.imp po_none fun σ H Q ⟨F, B, E, q⟩ => q B H E (Same.refl _)
theorem jo_some {i : Int} (h : JE X e δ δ1 (aI i)) : JO X (some e) δ δ1 (some i) := PO.imp (po_some h) fun σ H Q ⟨F, B, E, q⟩ => ⟨F, B, E, fun v B1 H1 E1 s1 a1 => ⟨i, Dd.int_eq a1, q B1 H1 E1 s1⟩⟩
theorem je_slL {lo hi : Option Expr} {l h' : Option Int} {p2 : Pos} (ha : JE X a δ δ1 (aD (.list ds))) (hl : JO X lo δ1 δ2 l) (hh : JO X hi δ2 δ3 h') : JE X (.Subscript a (.Slice lo hi none p2) pos) δ δ3 (aD (.list (cutD ds l h'))) :=
  PE.imp (pe_slice sl_list ha hl hh) fun σ H Q ⟨F, B, E, q⟩ => ⟨F, B, E, fun v B1 H1 E1 s1 a1 => ⟨F, B1, E1, fun B2 H2 E2 s2 => ⟨F, B2, E2, fun B3 H3 E3 s3 => by
    obtain ⟨a, xs, rfl, e2, hl, e3⟩ := Dd.lst_eq a1
    refine ⟨a, xs, rfl, SqL.of (E3.bh _ _ (s3 _ _ (s2 _ _ e2))), fun p hp => ?_⟩
    have sB := same_upd (o := .lst (cutV xs l h')) (E3.bh.free hp)
    exact q _ _ _ (E3.laid hp) (((s1.trans s2).trans s3).trans sB) (.lst upd_same (Nat.le_trans (cutD_len _ _) hl) (DdAll.mono ((s2.trans s3).trans sB) _ _ (e3.cut _ _)))⟩⟩⟩
theorem je_slT {lo hi : Option Expr} {l h' : Option Int} {p2 : Pos} (ha : JE X a δ δ1 (aD (.tuple ds))) (hl : JO X lo δ1 δ2 l) (hh : JO X hi δ2 δ3 h') : JE X (.Subscript a (.Slice lo hi none p2) pos) δ δ3 (aD (.tuple (cutD ds l h'))) :=
  PE.imp (pe_slice sl_tupA ha hl hh) fun σ H Q ⟨F, B, E, q⟩ => ⟨F, B, E, fun v B1 H1 E1 s1 a1 => ⟨F, B1, E1, fun B2 H2 E2 s2 => ⟨F, B2, E2, fun B3 H3 E3 s3 => by
    obtain ⟨a, xs, rfl, e2, hl, e3⟩ := Dd.tup_eq a1
    refine ⟨a, xs, rfl, SqT.of (E3.bh _ _ (s3 _ _ (s2 _ _ e2))), fun hw => ?_, fun _ p hp => ?_⟩
    · have ew : cutD ds l h' = ds := by
        unfold cutD
        rw [e3.len] at hw
        rw [hw.1, hw.2, List.drop_zero, Nat.sub_zero, List.take_length]
      rw [ew] at q
      exact q _ B3 H3 E3 ((s1.trans s2).trans s3) (Dd.mono (s2.trans s3) _ _ a1)
    · have sB := same_upd (o := .tup (cutV xs l h')) (E3.bh.free hp)
      exact q _ _ _ (E3.laid hp) (((s1.trans s2).trans s3).trans sB) (.tup upd_same (Nat.le_trans (cutD_len _ _) hl) (DdAll.mono ((s2.trans s3).trans sB) _ _ (e3.cut _ _)))⟩⟩⟩

/-! ### isinstance -/
def tyD : PyData → String
  | .none => "NoneType"
  | .bool _ => "bool"
  | .int _ => "int"
  | .str _ => "str"
  | .list _ => "list"
  | .tuple _ => "tuple"
  | .dict _ => "dict"
theorem Dd.ty {K : PySem.W.Frag} {B H : Hp} {v : V} {d : PyData} (s : Same B H) (h : Dd B v d) : TyX K H v (.type (tyD d)) := by
  cases h with
  | non => exact .base .non
  | bl b => exact .base (.bl b)
  | int i => exact .base (.int i)
  | str x => exact .base (.str x)
  | lst h1 _ _ => exact .base (.lst (s _ _ h1))
  | tup h1 _ _ => exact .base (.tup (s _ _ h1))
def aTy (n : String) : AV := ⟨fun _ v => v = .ty n, fun _ h => h⟩
theorem je_ty {x : Str} {n : String} (hm : X.mg x = none) (hv : bootBuiltins x = some (.type n)) (hg : Gl X x := by rfl) (hn : x ≠ "__name__" := by decide) (hd : (x == ("__debug__" : Str)) = false := by decide) : JE X (.Name x pos) δ δ (aTy n) :=
  PE.imp (pe_bltn (v := .ty n) hg hm hv rfl hn hd) fun σ H Q ⟨F, B, E, q⟩ => q _ B H E (Same.refl _) rfl
theorem je_isi {d : PyData} {n : String} {r : Bool} (hm : X.mg "isinstance" = none) (h1 : JE X a δ δ1 (aD d)) (h2 : JE X b δ1 δ2 (aTy n)) (hk : kitB (tyD d) n = some r) (hg : Gl X "isinstance" := by rfl) (he : starEach [a, b] X.env = (false, eval a X.env) :: starEach [b] X.env := by rfl) (he2 : starEach [b] X.env = (false, eval b X.env) :: starEach [] X.env := by rfl)
    (hpl : (backTo pos (starEach [b] X.env)).any (·.1) = false := by rfl) : JE X (.Call (.Name "isinstance" p) [a, b] [] pos) δ δ2 (aB r) :=
  je_B call_isi PyProof.Rows.boot_isinstance hm (fun B H vs Q s a q => by
    obtain ⟨u, v, rfl, hu, hv⟩ := all2_two a
    have ev : v = .ty n := hv
    exact ⟨u, v, .type (tyD d), .type n, r, rfl, by rw [ev]; exact .ty n, Dd.ty s hu, kit_ty hk, q _ B H (.refl B H) (.bl _)⟩) (ja_cons h1 (ja_cons h2 ja_nil he2) he) hg (by decide) (by decide) he hpl
/-- isinstance(x, (T1, T2)) -/
theorem je_isi2 {c1 c2 : Expr} {k : Nat} {tp : Pos} {d : PyData} {n1 n2 : String} {r1 r2 : Bool} (hm : X.mg "isinstance" = none) (h1 : JE X a δ δ (aD d)) (h2 : JE X c1 δ δ (aTy n1)) (h3 : JE X c2 δ δ (aTy n2)) (hk1 : kitB (tyD d) n1 = some r1) (hk2 : kitB (tyD d) n2 = some r2) (hg : Gl X "isinstance" := by rfl)
    (he : starEach [a, .Tuple [c1, c2] k tp] X.env = (false, eval a X.env) :: starEach [.Tuple [c1, c2] k tp] X.env := by rfl) (he2 : starEach [.Tuple [c1, c2] k tp] X.env = (false, eval (.Tuple [c1, c2] k tp) X.env) :: starEach [] X.env := by rfl) (he3 : starEach [c1, c2] X.env = (false, eval c1 X.env) :: starEach [c2] X.env := by rfl)
    (he4 : starEach [c2] X.env = (false, eval c2 X.env) :: starEach [] X.env := by rfl) (hpl : (backTo pos (starEach [.Tuple [c1, c2] k tp] X.env)).any (·.1) = false := by rfl) : JE X (.Call (.Name "isinstance" p) [a, .Tuple [c1, c2] k tp] [] pos) δ δ (aB (r1 || r2)) := by
  refine PE.imp (pe_callB call_isiT hg hm PyProof.Rows.boot_isinstance (pa_cons h1 (pa_cons (pe_tup (pa_cons h2 (pa_cons h3 pa_nil he4) he3)) pa_nil he2) he) (by decide) (by decide) he hpl) fun σ H Q ⟨F, B, E, q⟩ => ⟨F, B, E, fun u B1 H1 E1 s1 a1 => ⟨F, B1, E1, fun v1 B2 H2 E2 s2 a2 => ⟨F, B2, E2, fun v2 B3 H3 E3 s3 a3 => ⟨small (by simp), fun T hT => ?_⟩⟩⟩⟩
  have e1 : v1 = .ty n1 := a2
  have e2 : v2 = .ty n2 := a3
  subst e1 e2
  have sB := same_upd (o := .tup [V.ty n1, V.ty n2]) (E3.bh.free hT)
  refine ⟨u, T, [.ty n1, .ty n2], .type (tyD d), [.type n1, .type n2], r1 || r2, rfl, upd_same, .cons (.ty n1) (.cons (.ty n2) .nil), Dd.ty (E3.laid (o := .tup [V.ty n1, V.ty n2]) hT).bh (Dd.mono ((s2.trans s3).trans sB) _ _ a1), ?_, q _ _ _ (E3.laid hT) (((s1.trans s2).trans s3).trans sB) (.bl _)⟩
  refine kitAny_cons (kit_ty hk1) (fun z => ?_) fun z => by rw [z]; rfl
  rw [z, Bool.false_or]
  refine kitAny_cons (kit_ty hk2) (fun z => ?_) fun z => z
  rw [z]
  exact kitAny_nil
end
end J
/-! Comprehensions in the usual forms; lists of one's own. -/
namespace J
open PySem PySem.Spec L2
theorem JI.eq {X : Cx} {tg e : Expr} {δ δ1 : DSt} {xs ys : List AV} (h : JI X tg e δ δ1 xs) (k : xs = ys) : JI X tg e δ δ1 ys := by rw [← k]; exact h
/-- a store into slot i, in every block -/
def GN (X : Cx) (scope : Scope) (tg : Expr) (i : Nat) : Prop := Bk X scope fun Y => PG Y tg (gName i)
section
variable {X : Cx} {iter elt c : Expr} {scope : Scope} {pos tp : Pos} {δ δ1 : DSt} {α : Type} {x : Str} {i : Nat}
theorem gn_mk {scope : Scope} {tp : Pos} (hN : X.N.Nodup) (hx : X.N[i]? = some x) (hL : Loc (relS scope X.env.scope) x) (hf : (scope.names.lookup x == some .cell) = true ∨ (relS scope X.env.scope).names.lookup x = some .local) : GN X scope (.Name x tp) i := fun _ _ _ _ _ => pg_name hN hx hL hf
theorem jg_of {Y : Cx} {tg : Expr} {A : AV} (h : PG Y tg (gName i)) : JG Y tg A [i] δ (δ.set i (some (.val A))) := PG.imp h fun v σ H Q ⟨F, B, E, a, k⟩ => k _ B H (E.set i a) (Same.refl _) (only_set ..)
/-- [elt for x in iter if c] -/
theorem jn_f (i : Nat) (xs : List α) (enc : α → PyData) (p : α → Bool) (f : α → PyData) (hi : JI X (.Name x tp) iter δ δ1 (xs.map fun x => aD (enc x))) (ok : BlkOk X.N X.env.scope scope [(x, i)]) (hT : ∀ y ∈ xs, Bk X scope fun Y => JT Y c (δ1.set i (some (.val (aD (enc y))))) (δ1.set i (some (.val (aD (enc y))))) (p y))
    (hE : ∀ y ∈ xs, p y = true → Bk X scope fun Y => JE Y elt (δ1.set i (some (.val (aD (enc y))))) (δ1.set i (some (.val (aD (enc y))))) (aD (f y))) (hc : X.calm = true) (hN : X.N.Nodup) (hx : X.N[i]? = some x := by rfl) (hL : Loc (relS scope X.env.scope) x := by first | exact .inl rfl | exact .inr rfl)
    (hf : (scope.names.lookup x == some .cell) = true ∨ (relS scope X.env.scope).names.lookup x = some .local := by first | exact .inr rfl | exact .inl rfl) (hs : ∀ x, foldedSetIterable iter X.env x = pure x := by intro _; rfl) : JN X (.ListComp elt [⟨.Name x tp, iter, [c], 0⟩] scope pos) δ (δ1.set i none) (isL ((xs.filter p).map f)) :=
  jn_lc (own := [(x, i)]) (ws := [i]) xs enc (fun y => δ1.set i (some (.val (aD (enc y))))) p f hi ok (fun y hy s H C cl fp => by
    have h := jg_of (A := aD (enc y)) (δ := dwipe δ1 [i]) (gn_mk (scope := scope) (tp := tp) hN hx hL hf s H C cl fp)
    have e : (dwipe δ1 [i]).set i (some (.val (aD (enc y)))) = δ1.set i (some (.val (aD (enc y)))) := by show (δ1.set i none).set i _ = _; rw [List.set_set]
    rw [e] at h
    exact h) (fun y hy s H C cl fp => jts_one (hT y hy s H C cl fp)) hE hc hN (fun j hj => hj) (fun y => by show (δ1.set i _).set i none = δ1.set i none; rw [List.set_set]) hs
/-- [elt for x in iter] -/
theorem jn_m (i : Nat) (xs : List α) (enc : α → PyData) (f : α → PyData) (hi : JI X (.Name x tp) iter δ δ1 (xs.map fun x => aD (enc x))) (ok : BlkOk X.N X.env.scope scope [(x, i)])
    (hE : ∀ y ∈ xs, Bk X scope fun Y => JE Y elt (δ1.set i (some (.val (aD (enc y))))) (δ1.set i (some (.val (aD (enc y))))) (aD (f y))) (hc : X.calm = true) (hN : X.N.Nodup) (hx : X.N[i]? = some x := by rfl) (hL : Loc (relS scope X.env.scope) x := by first | exact .inl rfl | exact .inr rfl)
    (hf : (scope.names.lookup x == some .cell) = true ∨ (relS scope X.env.scope).names.lookup x = some .local := by first | exact .inr rfl | exact .inl rfl) (hs : ∀ x, foldedSetIterable iter X.env x = pure x := by intro _; rfl) : JN X (.ListComp elt [⟨.Name x tp, iter, [], 0⟩] scope pos) δ (δ1.set i none) (isL (xs.map f)) := by
  have h := jn_lc (own := [(x, i)]) (ws := [i]) (pos := pos) xs enc (fun y => δ1.set i (some (.val (aD (enc y))))) (fun _ => true) f hi ok (fun y hy s H C cl fp => by
    have h := jg_of (A := aD (enc y)) (δ := dwipe δ1 [i]) (gn_mk (scope := scope) (tp := tp) hN hx hL hf s H C cl fp)
    have e : (dwipe δ1 [i]).set i (some (.val (aD (enc y)))) = δ1.set i (some (.val (aD (enc y)))) := by show (δ1.set i none).set i _ = _; rw [List.set_set]
    rw [e] at h
    exact h) (fun y hy s H C cl fp => jts_nil) (fun y hy _ => hE y hy) hc hN (fun j hj => hj) (fun y => by show (δ1.set i _).set i none = δ1.set i none; rw [List.set_set]) hs
  rw [List.filter_eq_self.mpr fun _ _ => rfl] at h
  exact h
/-- .. over data -/
theorem ji_T {tg : Expr} {xs : List α} {enc : α → PyData} (h : JE X iter δ δ1 (aD (.tuple (xs.map enc)))) : JI X tg iter δ δ1 (xs.map fun x => aD (enc x)) := JI.eq (ji_tup h) (by rw [List.map_map]; rfl)
theorem ji_L {tg : Expr} {xs : List α} {enc : α → PyData} (h : JE X iter δ δ1 (aD (.list (xs.map enc)))) : JI X tg iter δ δ1 (xs.map fun x => aD (enc x)) := JI.eq (ji_list h) (by rw [List.map_map]; rfl)
/-- any([p for ..]), all([p for ..]) -/
theorem je_anyC {e : Expr} {p : Pos} {xs : List α} {b : α → Bool} (hm : X.mg "any" = none) (hc : X.calm = true) (h : JN X e δ δ1 (isL (xs.map fun x => .bool (b x)))) (hg : Gl X "any" := by rfl) (he : starEach [e] X.env = (false, eval e X.env) :: starEach [] X.env := by rfl) : JE X (.Call (.Name "any" p) [e] [] pos) δ δ1 (aB (xs.any b)) :=
  JE.eq (je_any (bs := xs.map b) hm hc (JE.eq (JN.dat h) (by rw [List.map_map]; rfl)) hg he) (by rw [List.any_map]; rfl)
theorem je_allC {e : Expr} {p : Pos} {xs : List α} {b : α → Bool} (hm : X.mg "all" = none) (hc : X.calm = true) (h : JN X e δ δ1 (isL (xs.map fun x => .bool (b x)))) (hg : Gl X "all" := by rfl) (he : starEach [e] X.env = (false, eval e X.env) :: starEach [] X.env := by rfl) : JE X (.Call (.Name "all" p) [e] [] pos) δ δ1 (aB (xs.all b)) :=
  JE.eq (je_all (bs := xs.map b) hm hc (JE.eq (JN.dat h) (by rw [List.map_map]; rfl)) hg he) (by rw [List.all_map]; rfl)
end

/-! ### a list of one's own: append, extend -/
section
variable {X : Cx} {e : Expr} {δ δ1 : DSt} {x : Str} {i : Nat} {ds es : List PyData} {d : PyData} {A : AV} {np apos cpos : Pos}
theorem own_tyL {F B H : Hp} {σ : L2.St} (E : Env F B H σ δ) (h : δ[i]? = some (some (.mut (mL ds)))) : ∃ a vs, σ[i]? = some (some (.ref a)) ∧ H a = some (.lst vs) ∧ tyV X.K "list" (.ref a) H := by
  obtain ⟨a, vs, h1, h2, _⟩ := E.own h
  exact ⟨a, vs, h1, h2, .inl ⟨rfl, vs, SqL.of h2⟩⟩
/-- a method called with one argument, as it is written -/
structure A1 (X : Cx) (o : Expr) (m : Str) (apos : Pos) (e : Expr) (cpos : Pos) : Prop where
  base : attributeBase o m X.env (eval o X.env) = eval o X.env
  few : ((backTo cpos (starEach [e] X.env)).all (fun x => !x.1) && (backToKw cpos (keywordEach [] X.env)).all (fun x => x.1.isSome)
    && decide (([e] : List Expr).length + ([] : List Keyword).length + (if ([] : List Keyword).isEmpty then 0 else 1) < 30)) = true
  line : (apos.endLine == cpos.line) = true
  st : starEach [e] X.env = (false, eval e X.env) :: starEach [] X.env
  pl : (backTo cpos (starEach [] X.env)).any (·.1) = false
/-- x.append(e) -/
theorem je_append (i : Nat) (h0 : δ[i]? = some (some (.mut (mL ds)))) (he : JE X e δ δ1 (aD d)) (h1 : δ1[i]? = some (some (.mut (mL ds)))) (hz : ds.length + 1 ≤ sizeLine) (hN : X.N[i]? = some x := by rfl) (hv : Vis X.env.scope x := by first | exact Or.inl rfl | exact Or.inr (Or.inl rfl) | exact Or.inr (Or.inr rfl))
    (hd : (x == ("__debug__" : Str)) = false := by decide) (hcd : (x == ("__classdict__" : Str)) = false := by decide) (hst : starEach [e] X.env = (false, eval e X.env) :: starEach [] X.env := by rfl)
    (m : A1 X (.Name x np) "append" apos e cpos := by exact ⟨rfl, rfl, rfl, rfl, rfl⟩) :
    JE X (.Call (.Attribute (.Name x np) "append" apos) [e] [] cpos) δ (δ1.set i (some (.mut (mL (ds ++ [d]))))) aN :=
  PE.imp (pe_bm PySem.F.plainAttrs_list PySem.F.slot_list_append PySem.F.type_list_append mt_append (pe_var hN hv hd hcd) (pa_cons he pa_nil hst) m.base m.few m.line m.st m.pl) fun σ H Q ⟨F, B, E, q⟩ => by
    obtain ⟨a, vs, e1, e2, ty⟩ := own_tyL (X := X) E h0
    refine ⟨.ref a, e1, ty, F, B, E, fun v B1 H1 E1 s1 a1 => ?_⟩
    obtain ⟨a', ws, f1, f2, f3, f4, f5, f6⟩ := E1.own h1
    rw [e1] at f1
    cases f1
    refine ⟨a, ws, v, rfl, rfl, f2, by rw [f5.len]; omega, ?_⟩
    exact q .non B1 _ (E1.upOwn h1 e1 (f5.append (.cons a1 .nil)) (by rw [List.length_append, List.length_singleton]; exact hz)) s1 .non
/-- x.extend(e), e a list that is data -/
theorem je_extend (i : Nat) (h0 : δ[i]? = some (some (.mut (mL ds)))) (he : JE X e δ δ1 (aD (.list es))) (h1 : δ1[i]? = some (some (.mut (mL ds)))) (hz : ds.length + es.length ≤ sizeLine) (hN : X.N[i]? = some x := by rfl) (hv : Vis X.env.scope x := by first | exact Or.inl rfl | exact Or.inr (Or.inl rfl) | exact Or.inr (Or.inr rfl))
    (hd : (x == ("__debug__" : Str)) = false := by decide) (hcd : (x == ("__classdict__" : Str)) = false := by decide) (hst : starEach [e] X.env = (false, eval e X.env) :: starEach [] X.env := by rfl)
    (m : A1 X (.Name x np) "extend" apos e cpos := by exact ⟨rfl, rfl, rfl, rfl, rfl⟩) :
    JE X (.Call (.Attribute (.Name x np) "extend" apos) [e] [] cpos) δ (δ1.set i (some (.mut (mL (ds ++ es))))) aN :=
  PE.imp (pe_bm PySem.F.plainAttrs_list PySem.F.slot_list_extend PySem.F.type_list_extend mt_extend (pe_var hN hv hd hcd) (pa_cons he pa_nil hst) m.base m.few m.line m.st m.pl) fun σ H Q ⟨F, B, E, q⟩ => by
    obtain ⟨a, vs, e1, e2, ty⟩ := own_tyL (X := X) E h0
    refine ⟨.ref a, e1, ty, F, B, E, fun v B1 H1 E1 s1 a1 => ?_⟩
    obtain ⟨a', ws, f1, f2, f3, f4, f5, f6⟩ := E1.own h1
    rw [e1] at f1
    cases f1
    obtain ⟨b, zs, rfl, g2, g3, g4⟩ := Dd.lst_eq a1
    refine ⟨a, b, ws, zs, rfl, rfl, f2, E1.bh _ _ g2, by rw [f5.len, g4.len]; exact hz, ?_⟩
    exact q .non B1 _ (E1.upOwn h1 e1 (f5.append g4) (by rw [List.length_append]; exact hz)) s1 .non
end
end J
/-! The states' names and how data stands for lists of numbers. -/
namespace J
open PySem PySem.Spec L2

/-- names: rising with the number, each a NAME below twenty -/
structure Nam (nm : Nat → Str) : Prop where
  lt : ∀ i j, decide ((nm i).cps.toList < (nm j).cps.toList) = decide (i < j)
  inj : ∀ i j, nm i = nm j → i = j
section
variable (nm : Nat → Str)
abbrev eN (i : Nat) : PyData := .str (nm i)
/-- a set of states -/
abbrev eE (e : List Nat) : PyData := .tuple (e.map (eN nm))
/-- a tuple, a list of sets -/
abbrev eEs (es : List (List Nat)) : PyData := .tuple (es.map (eE nm))
abbrev eLs (es : List (List Nat)) : PyData := .list (es.map (eE nm))
end
section
variable {nm : Nat → Str}
theorem flat_N (e : List Nat) : (e.map (eN nm)).all flatD = true := by
  rw [List.all_map, List.all_eq_true]
  exact fun _ _ => rfl
theorem eqF_N (H : Nam nm) (i j : Nat) : eqF (eN nm i) (eN nm j) = (i == j) := by
  show (nm i == nm j) = (i == j)
  by_cases h : i = j
  · subst h
    rw [beq_self_eq_true, beq_self_eq_true]
  · rw [beq_eq_false_iff_ne.mpr h, beq_eq_false_iff_ne.mpr fun z => h (H.inj _ _ z)]
theorem any_N (H : Nam nm) (e : List Nat) (i : Nat) : ((e.map (eN nm)).any fun y => eqF y (eN nm i)) = e.contains i := by
  rw [List.any_map, List.contains_eq_any_beq]
  refine List.any_congr rfl fun j => ?_
  show eqF (eN nm j) (eN nm i) = (i == j)
  rw [eqF_N H]
  exact Bool.beq_comm
end
/-! ### the program's functions on sets of states -/
def meetM (one other : List Nat) : Bool := one.any fun n => other.contains n
def commonM (family : List (List Nat)) : List Nat := (family.headD []).filter fun n => family.all fun e => e.contains n
end J
namespace J
open PySem PySem.Spec L2
def topS (i : Nat) : Stmt := PySem.Challenge.pw_oldornew_k55_whole_bits_that_are_right.main.body.getD i (.Pass ⟨0, 0, 0, 0⟩)
section
variable {P : Program} {w : World} {K : PySem.W.Frag} {mg : Str → Option Value} {base : Heap} {nm : Nat → Str}
abbrev s_meet : Stmt := topS 21
theorem c_meet : FnScope ["one", "other", "name"] ["one", "other"] (defScope s_meet) := ⟨rfl, rfl, rfl, by decide +kernel, rfl, by decide +kernel, by decide +kernel⟩
def R_meet (nm : Nat → Str) : Rl := fun As Z => ∃ a b : List Nat, As = [aD (eE nm a), aD (eE nm b)] ∧ Z = aB (meetM a b)
theorem f_meet {f : Addr} {fd : FuncData} {k : Nat} (H : Nam nm) (F : Fun K "meet" "meet" s_meet f fd) (many : mg "any" = none) : FnOk P w K mg base CX0 (k + 1) f fd ["one", "other"] (spJ (R_meet nm)) := by
  refine fn_j F c_meet (fun As Z ⟨a, b, e, _⟩ => by rw [e]; rfl) fun cdv A outer s H0 E As Z hr ⟨a, b, e1, e2⟩ => ?_
  subst e1 e2
  exact jb_ret (je_anyC many rfl (jn_m 2 a (eN nm) (fun n => .bool (b.contains n)) (ji_T (je_v 0)) (blkOk_by (N := ["one", "other", "name"]) (sc := defScope s_meet) (by decide +kernel))
    (fun y hy _ _ _ _ _ => JE.eq (je_in (ds := b.map (eN nm)) (.inr rfl) (je_v 2) (je_v 1) rfl (flat_N b)) (by rw [any_N H])) rfl c_meet.nd)) Ret.same
abbrev s_common : Stmt := topS 23
theorem c_common : FnScope ["family", "name", "event"] ["family"] (defScope s_common) := ⟨rfl, rfl, rfl, by decide +kernel, rfl, by decide +kernel, by decide +kernel⟩
def R_common (nm : Nat → Str) : Rl := fun As Z => ∃ f : List (List Nat), f ≠ [] ∧ As = [aD (eLs nm f)] ∧ Z = aD (eE nm (commonM f))
theorem f_common {f : Addr} {fd : FuncData} {k : Nat} (H : Nam nm) (F : Fun K "common_of" "common_of" s_common f fd) (mall : mg "all" = none) (mtup : mg "tuple" = none) : FnOk P w K mg base CX0 (k + 1) f fd ["family"] (spJ (R_common nm)) := by
  refine fn_j F c_common (fun As Z ⟨f, _, e, _⟩ => by rw [e]; rfl) fun cdv A outer s H0 E As Z hr ⟨f, hf, e1, e2⟩ => ?_
  subst e1 e2
  obtain ⟨a, r, rfl⟩ : ∃ a r, f = a :: r := by
    cases f with
    | nil => exact absurd rfl hf
    | cons a r => exact ⟨a, r, rfl⟩
  exact jb_ret (je_tupleL mtup (JN.dat (jn_f 1 a (eN nm) (fun n => (a :: r).all fun e => e.contains n) (eN nm) (ji_T (je_ixL (je_v 0) je_int (atI_nat (j := 0) rfl))) (blkOk_by (N := ["family", "name", "event"]) (sc := defScope s_common) (by decide +kernel))
    (fun y hy _ _ _ _ _ => jt_val (je_allC mall rfl (jn_m 2 (a :: r) (eE nm) (fun e => .bool (e.contains y)) (ji_L (je_v 0)) (blkOk_by (N := ["family", "name", "event"]) (sc := relS _ (defScope s_common)) (by decide +kernel))
      (fun z hz _ _ _ _ _ => JE.eq (je_in (ds := z.map (eN nm)) (.inr rfl) (je_v 1) (je_v 2) rfl (flat_N z)) (by rw [any_N H])) rfl c_common.nd)))
    (fun y hy _ _ _ _ _ _ => je_v 1) rfl c_common.nd))) Ret.same
end
end J
/-! The order of data, and how the machine compares by it. -/
namespace J
open PySem PySem.Spec L2

def rankD : PyData → Nat
  | .none => 0 | .bool _ => 1 | .int _ => 2 | .str _ => 3 | .list _ => 4 | .tuple _ => 5 | .dict _ => 6
mutual
/-- a total order; on ints, on texts and on tuples of comparable things it is Python's -/
def ltD : PyData → PyData → Bool
  | .int a, .int b => decide (a < b)
  | .str a, .str b => decide (a.cps.toList < b.cps.toList)
  | .tuple xs, .tuple ys => ltAll xs ys
  | x, y => decide (rankD x < rankD y)
  termination_by x y => sizeOf x + sizeOf y
  decreasing_by all_goals (simp_wf; omega)
def ltAll : List PyData → List PyData → Bool
  | [], [] => false
  | [], _ :: _ => true
  | _ :: _, [] => false
  | x :: xs, y :: ys => if ltD x y then true else if ltD y x then false else ltAll xs ys
  termination_by x y => sizeOf x + sizeOf y
  decreasing_by all_goals (simp_wf; omega)
end
mutual
/-- Python compares them with < -/
def cmpb : PyData → PyData → Bool
  | .int _, .int _ => true
  | .str _, .str _ => true
  | .tuple xs, .tuple ys => cmpbAll xs ys
  | _, _ => false
def cmpbAll : List PyData → List PyData → Bool
  | x :: xs, y :: ys => cmpb x y && cmpbAll xs ys
  | _, _ => true
end

/-! ### it is an order -/
theorem natL_irr (l : List Nat) : ¬ l < l := List.lt_irrefl l
theorem natL_asym {a b : List Nat} (h : a < b) : ¬ b < a := List.lt_asymm h
theorem natL_tr {a b c : List Nat} (h : ¬ b < a) (h' : ¬ c < b) : ¬ c < a := List.not_lt.mpr (List.le_trans (List.not_lt.mp h) (List.not_lt.mp h'))
theorem natL_eq {a b : List Nat} (h : ¬ a < b) (h' : ¬ b < a) : a = b := List.le_antisymm (List.not_lt.mp h') (List.not_lt.mp h)
mutual
theorem ltD_asym : ∀ x y : PyData, ltD x y = true → ltD y x = false
  | .int a, .int b, h => by
    simp only [ltD, decide_eq_true_eq, decide_eq_false_iff_not] at h ⊢
    omega
  | .str a, .str b, h => by
    simp only [ltD, decide_eq_true_eq, decide_eq_false_iff_not] at h ⊢
    exact natL_asym h
  | .tuple xs, .tuple ys, h => by
    simp only [ltD] at h ⊢
    exact ltAll_asym xs ys h
  | .none, y, h => by cases y <;> simp_all [ltD, rankD]
  | .bool _, y, h => by cases y <;> simp_all [ltD, rankD]
  | .list _, y, h => by cases y <;> simp_all [ltD, rankD]
  | .dict _, y, h => by cases y <;> simp_all [ltD, rankD]
  | .int _, .none, h => by simp_all [ltD, rankD]
  | .int _, .bool _, h => by simp_all [ltD, rankD]
  | .int _, .str _, h => by simp_all [ltD, rankD]
  | .int _, .list _, h => by simp_all [ltD, rankD]
  | .int _, .tuple _, h => by simp_all [ltD, rankD]
  | .int _, .dict _, h => by simp_all [ltD, rankD]
  | .str _, .none, h => by simp_all [ltD, rankD]
  | .str _, .bool _, h => by simp_all [ltD, rankD]
  | .str _, .int _, h => by simp_all [ltD, rankD]
  | .str _, .list _, h => by simp_all [ltD, rankD]
  | .str _, .tuple _, h => by simp_all [ltD, rankD]
  | .str _, .dict _, h => by simp_all [ltD, rankD]
  | .tuple _, .none, h => by simp_all [ltD, rankD]
  | .tuple _, .bool _, h => by simp_all [ltD, rankD]
  | .tuple _, .int _, h => by simp_all [ltD, rankD]
  | .tuple _, .str _, h => by simp_all [ltD, rankD]
  | .tuple _, .list _, h => by simp_all [ltD, rankD]
  | .tuple _, .dict _, h => by simp_all [ltD, rankD]
theorem ltAll_asym : ∀ xs ys : List PyData, ltAll xs ys = true → ltAll ys xs = false
  | [], [], h => by simp [ltAll] at h
  | [], _ :: _, _ => by simp [ltAll]
  | _ :: _, [], h => by simp [ltAll] at h
  | x :: xs, y :: ys, h => by
    simp only [ltAll] at h ⊢
    by_cases h1 : ltD x y = true
    · rw [if_neg (by rw [ltD_asym x y h1]; exact Bool.false_ne_true), if_pos h1]
    · rw [if_neg h1] at h
      by_cases h2 : ltD y x = true
      · rw [if_pos h2] at h
        cases h
      · rw [if_neg h2] at h
        rw [if_neg h2, if_neg h1]
        exact ltAll_asym xs ys h
end
theorem ltD_rank {x y : PyData} (h : ltD y x = false) : rankD x ≤ rankD y := by
  cases x <;> cases y <;> simp_all [ltD, rankD]
theorem ltD_mixed {x z : PyData} (h : rankD x ≤ rankD z) (h2 : rankD x ≠ rankD z) : ltD z x = false := by
  cases x <;> cases z <;> simp_all [ltD, rankD]
mutual
theorem ltD_tr : ∀ x y z : PyData, ltD y x = false → ltD z y = false → ltD z x = false
  | .int a, .int b, .int c, h, h' => by
    simp only [ltD, decide_eq_false_iff_not] at h h' ⊢
    omega
  | .str a, .str b, .str c, h, h' => by
    simp only [ltD, decide_eq_false_iff_not] at h h' ⊢
    exact natL_tr h h'
  | .tuple xs, .tuple ys, .tuple zs, h, h' => by
    simp only [ltD] at h h' ⊢
    exact ltAll_tr xs ys zs h h'
  | .none, y, z, h, h' => by cases z <;> simp [ltD, rankD]
  | .bool _, y, z, h, h' => by
    have h1 := ltD_rank h
    have h2 := ltD_rank h'
    cases z <;> simp_all [ltD, rankD] <;> omega
  | .list _, y, z, h, h' => by
    have h1 := ltD_rank h
    have h2 := ltD_rank h'
    cases z <;> simp_all [ltD, rankD] <;> omega
  | .dict _, y, z, h, h' => by
    have h1 := ltD_rank h
    have h2 := ltD_rank h'
    cases z <;> simp_all [ltD, rankD] <;> omega
  | .int a, y, z, h, h' => by
    have h1 := ltD_rank h
    have h2 := ltD_rank h'
    by_cases e : rankD (.int a) = rankD z
    · cases z <;> simp [rankD] at e
      cases y <;> simp_all [ltD, rankD] <;> omega
    · exact ltD_mixed (by omega) e
  | .str a, y, z, h, h' => by
    have h1 := ltD_rank h
    have h2 := ltD_rank h'
    by_cases e : rankD (.str a) = rankD z
    · cases z <;> simp [rankD] at e
      cases y <;> simp_all [rankD]
      simp only [ltD, decide_eq_false_iff_not] at h h' ⊢
      exact natL_tr h h'
    · exact ltD_mixed (by omega) e
  | .tuple _, .none, _, h, _ => by
    have h1 := ltD_rank h
    simp [rankD] at h1
  | .tuple _, .bool _, _, h, _ => by
    have h1 := ltD_rank h
    simp [rankD] at h1
  | .tuple _, .int _, _, h, _ => by
    have h1 := ltD_rank h
    simp [rankD] at h1
  | .tuple _, .str _, _, h, _ => by
    have h1 := ltD_rank h
    simp [rankD] at h1
  | .tuple _, .list _, _, h, _ => by
    have h1 := ltD_rank h
    simp [rankD] at h1
  | .tuple _, .dict _, z, _, h' => by
    have h2 := ltD_rank h'
    cases z <;> simp_all [ltD, rankD]
  | .tuple _, .tuple _, .none, _, h' => by
    have h2 := ltD_rank h'
    simp [rankD] at h2
  | .tuple _, .tuple _, .bool _, _, h' => by
    have h2 := ltD_rank h'
    simp [rankD] at h2
  | .tuple _, .tuple _, .int _, _, h' => by
    have h2 := ltD_rank h'
    simp [rankD] at h2
  | .tuple _, .tuple _, .str _, _, h' => by
    have h2 := ltD_rank h'
    simp [rankD] at h2
  | .tuple _, .tuple _, .list _, _, h' => by
    have h2 := ltD_rank h'
    simp [rankD] at h2
  | .tuple _, .tuple _, .dict _, _, _ => by simp [ltD, rankD]
  termination_by x y z => sizeOf x + sizeOf y + sizeOf z
  decreasing_by all_goals (simp_wf; omega)
theorem ltAll_tr : ∀ xs ys zs : List PyData, ltAll ys xs = false → ltAll zs ys = false → ltAll zs xs = false
  | [], _, [], _, _ => by simp [ltAll]
  | [], _, _ :: _, _, _ => by simp [ltAll]
  | _ :: _, [], _, h, _ => by simp [ltAll] at h
  | _ :: _, _ :: _, [], _, h => by simp [ltAll] at h
  | x :: xs, y :: ys, z :: zs, h, h' => by
    simp only [ltAll] at h h' ⊢
    by_cases a1 : ltD y x = true
    · rw [if_pos a1] at h
      cases h
    have a1' : ltD y x = false := by simpa using a1
    rw [if_neg a1] at h
    by_cases b1 : ltD z y = true
    · rw [if_pos b1] at h'
      cases h'
    have b1' : ltD z y = false := by simpa using b1
    rw [if_neg b1] at h'
    have c1 : ltD z x = false := ltD_tr x y z a1' b1'
    rw [if_neg (by rw [c1]; exact Bool.false_ne_true)]
    by_cases c2 : ltD x z = true
    · rw [if_pos c2]
    · rw [if_neg c2]
      have c2' : ltD x z = false := by simpa using c2
      have a2 : ltD x y = false := ltD_tr y z x b1' c2'
      have b2 : ltD y z = false := ltD_tr z x y c2' a1'
      rw [if_neg (by rw [a2]; exact Bool.false_ne_true)] at h
      rw [if_neg (by rw [b2]; exact Bool.false_ne_true)] at h'
      exact ltAll_tr xs ys zs h h'
  termination_by x y z => sizeOf x + sizeOf y + sizeOf z
  decreasing_by all_goals (simp_wf; omega)
end
theorem swoD : SrtO.Swo ltD := ⟨ltD_asym, ltD_tr⟩
end J
/-! How the machine compares data, and sorts it. -/
namespace J
open PySem PySem.Spec L2

/-- < of two values at a state -/
def LtAt (A : Around) (s : Shared) (x y : Value) (r : Bool) : Prop :=
  ∀ (prog : Program) (w : World) (E : Value → Shared → Prop) (Q : Value → Shared → Prop), Q (.bool r) s → wpAny (model prog w) A (richCompare .Lt x y) Q E s
def LexAt (A : Around) (s : Shared) (fin : Bool) : List (Value × Value) → Bool → Prop
  | [], r => r = fin
  | (x, y) :: more, r => ∃ e, SeqAt.EqAt A s x y e ∧ ((e = true ∧ LexAt A s fin more r) ∨ (e = false ∧ LtAt A s x y r))
section
open PySem.SeqAt
open PySem.AutoSeq1 (wpAny_loadPart')
open PySem.MeetsSeq PySem.MeetsSeq2 PySem.MeetsSeq3
/-- tuple.__lt__ of any items -/
theorem tup_lt (l b : Addr) (items items2 : Array Value) (n n2 : Nat) (dd dd2 : Option Addr) (sl sl2 : Array (Option Value)) :
    Meets (Builtin.«tuple.__lt__» ⟨[.ref l, .ref b], []⟩)
      (fun A R s => s.heap.get? l = some { cls := .type "tuple", dict := dd, data := .seq items n, slots := sl } ∧ s.heap.get? b = some { cls := .type "tuple", dict := dd2, data := .seq items2 n2, slots := sl2 } ∧
        ∃ r, LexAt A.in1 s (decide (items.size < items2.size)) (items.toList.zip items2.toList) r ∧ R (.ok (.ret (.bool r))) s) :=
  .of_wp fun prog w A R s h => by
    obtain ⟨hp, g, d, tk, os⟩ := s; obtain ⟨hl, hb, r, hlex, h⟩ := h
    have f2 := AutoSeq1.sub_tuple_tuple
    wp_walk using wpAny_loadPart' hl, wpAny_loadPart' hb, wpAny_forIn_list _ (fun rest b s' => b.1 = none ∧ s' = ⟨hp, g, d, tk, os⟩ ∧ LexAt A.in1 ⟨hp, g, d, tk, os⟩ (decide (items.size < items2.size)) rest r) _
    case turn =>
      rintro ⟨y, x⟩ rest b s' ⟨hb', rfl, hx⟩
      obtain ⟨e, he, hx⟩ := hx
      refine wpAny_bind (he prog w _ _ ?_)
      rcases hx with ⟨rfl, hx⟩ | ⟨rfl, hx⟩
      · wp_walk
        exact ⟨rfl, rfl, hx⟩
      · have hri := hx prog w
        wp_walk using hri
        exact ⟨_, rfl, by simpa using h⟩
    case fin =>
      rintro ⟨b1, b2⟩ s' ⟨hb', rfl, hx⟩
      simp only at hb'
      subst hb'
      have hx' : r = decide (items.size < items2.size) := hx
      rw [hx'] at h
      wp_walk
      exact ⟨_, rfl, by simpa [Builtin.Tuple.tupleCompareSizes] using h⟩
    case h =>
      exact ⟨rfl, rfl, hlex⟩
end
mutual
theorem eqv_cmp : ∀ x y : PyData, cmpb x y = true → PyData.eqv x y = (!ltD x y && !ltD y x)
  | .int a, .int b, _ => by
    simp only [PyData.eqv, ltD]
    by_cases h : a = b
    · subst h
      simp
    · rw [beq_eq_false_iff_ne.mpr h]
      have : a < b ∨ b < a := by omega
      rcases this with q | q
      · rw [decide_eq_true q]
        rfl
      · rw [decide_eq_true q, Bool.and_comm]
        rfl
  | .str a, .str b, _ => by
    simp only [PyData.eqv, ltD]
    by_cases h : a = b
    · subst h
      rw [decide_eq_false (natL_irr _)]
      simp
    · rw [beq_eq_false_iff_ne.mpr h]
      symm
      rw [Bool.and_eq_false_iff, Bool.not_eq_false', Bool.not_eq_false', decide_eq_true_eq, decide_eq_true_eq]
      by_cases q : a.cps.toList < b.cps.toList
      · exact .inl q
      · by_cases z : b.cps.toList < a.cps.toList
        · exact .inr z
        · exact absurd (by
            have e := natL_eq q z
            cases a
            cases b
            simp only at e
            rw [Array.toList_inj] at e
            rw [e]) h
  | .tuple xs, .tuple ys, h => by
    simp only [cmpb] at h
    simp only [PyData.eqv, ltD]
    exact eqvAll_cmp xs ys h
  | .none, _, h => by simp [cmpb] at h
  | .bool _, _, h => by simp [cmpb] at h
  | .list _, _, h => by simp [cmpb] at h
  | .dict _, _, h => by simp [cmpb] at h
  | .int _, .none, h | .int _, .bool _, h | .int _, .str _, h | .int _, .list _, h | .int _, .tuple _, h | .int _, .dict _, h => by simp [cmpb] at h
  | .str _, .none, h | .str _, .bool _, h | .str _, .int _, h | .str _, .list _, h | .str _, .tuple _, h | .str _, .dict _, h => by simp [cmpb] at h
  | .tuple _, .none, h | .tuple _, .bool _, h | .tuple _, .int _, h | .tuple _, .list _, h | .tuple _, .str _, h | .tuple _, .dict _, h => by simp [cmpb] at h
theorem eqvAll_cmp : ∀ xs ys : List PyData, cmpbAll xs ys = true → PyData.eqvAll xs ys = (!ltAll xs ys && !ltAll ys xs)
  | [], [], _ => by simp [PyData.eqvAll, ltAll]
  | [], _ :: _, _ => by simp [PyData.eqvAll, ltAll]
  | _ :: _, [], _ => by simp [PyData.eqvAll, ltAll]
  | x :: xs, y :: ys, h => by
    simp only [cmpbAll, Bool.and_eq_true] at h
    simp only [PyData.eqvAll, ltAll]
    rw [eqv_cmp x y h.1, eqvAll_cmp xs ys h.2]
    by_cases h1 : ltD x y = true
    · rw [if_pos h1, h1]
      rfl
    · have h1' : ltD x y = false := by simpa using h1
      rw [h1']
      by_cases h2 : ltD y x = true
      · rw [h2]
        simp
      · have h2' : ltD y x = false := by simpa using h2
        rw [h2']
        simp
end
theorem lt_str_at {A : Around} {s : Shared} (a b : Str) (t u : Tok) : LtAt A s (.str a t) (.str b u) (decide (a.cps.toList < b.cps.toList)) := fun prog w E Q h =>
  (PyProof.Rows.lt_str h : wpAny (model prog w) A (compareOp .Lt (.str a t) (.str b u)) Q E s)
theorem lt_int_at {A : Around} {s : Shared} (a b : Int) (t u : Tok) : LtAt A s (.int a t) (.int b u) (decide (a < b)) := fun prog w E Q h =>
  (PyProof.Rows.lt_int h : wpAny (model prog w) A (compareOp .Lt (.int a t) (.int b u)) Q E s)
mutual
theorem lt_reads : ∀ (d e : PyData) (A : Around) (s : Shared) (u v : Value) (as bs : List Addr), Reads s.heap u d as → Reads s.heap v e bs → d.canLay0 = true → e.canLay0 = true → cmpb d e = true → A.units + min d.depth e.depth < cLine → LtAt A s u v (ltD d e)
  | .int a, .int b, A, s, _, _, _, _, h1, h2, _, _, _, _ => by
    cases h1
    cases h2
    simp only [ltD]
    exact lt_int_at a b _ _
  | .str a, .str b, A, s, _, _, _, _, h1, h2, _, _, _, _ => by
    cases h1
    cases h2
    simp only [ltD]
    exact lt_str_at a b _ _
  | .tuple xs, .tuple ys, A, s, _, _, _, _, h1, h2, c1, c2, hc, hu => by
    cases h1 with
    | @tuple a o vs n _ as1 q1 q2 q3 q4 =>
      cases h2 with
      | @tuple b o' ws n' _ as2 k1 k2 k3 k4 =>
        obtain ⟨cls, dd, data, sl⟩ := o
        obtain ⟨cls', dd', data', sl'⟩ := o'
        simp only at q2 q3 k2 k3
        subst q2 q3 k2 k3
        simp only [cmpb] at hc
        simp only [PyData.canLay0] at c1 c2
        simp only [PyData.depth] at hu
        have n1 : vs.size = xs.length := by simpa using SeqAt.ReadsAll.length _ _ _ q4
        have n2 : ws.size = ys.length := by simpa using SeqAt.ReadsAll.length _ _ _ k4
        intro prog w E Q hQ
        have hl := lex_reads xs ys A.in1 s vs.toList ws.toList _ _ vs.size ws.size q4 k4 c1 c2 hc (by show A.units + 1 + _ < _; omega) (by omega)
        simp only [ltD] at hQ
        exact richCompare_meets_room (op := .Lt) ⟨_, q1, rfl⟩ ⟨_, k1, rfl⟩ PySem.F.slot_tuple_lt PySem.F.entry_tuple_lt (PySem.F.args_tuple_lt_2 _ _) (tup_lt a b vs ws n n' dd dd' sl sl')
          ⟨q1, k1, _, hl, show Value.bool (ltAll xs ys) ≠ Value.notImplemented ∧ Q (.bool (ltAll xs ys)) s from ⟨(fun x => nomatch x), hQ⟩⟩ (by omega)
  | .none, _, _, _, _, _, _, _, _, _, _, _, h, _ => by simp [cmpb] at h
  | .bool _, _, _, _, _, _, _, _, _, _, _, _, h, _ => by simp [cmpb] at h
  | .list _, _, _, _, _, _, _, _, _, _, _, _, h, _ => by simp [cmpb] at h
  | .dict _, _, _, _, _, _, _, _, _, _, _, _, h, _ => by simp [cmpb] at h
  | .int _, .none, _, _, _, _, _, _, _, _, _, _, h, _ | .int _, .bool _, _, _, _, _, _, _, _, _, _, _, h, _ | .int _, .str _, _, _, _, _, _, _, _, _, _, _, h, _ | .int _, .list _, _, _, _, _, _, _, _, _, _, _, h, _ | .int _, .tuple _, _, _, _, _, _, _, _, _, _, _, h, _ | .int _, .dict _, _, _, _, _, _, _, _, _, _, _, h, _ => by simp [cmpb] at h
  | .str _, .none, _, _, _, _, _, _, _, _, _, _, h, _ | .str _, .bool _, _, _, _, _, _, _, _, _, _, _, h, _ | .str _, .int _, _, _, _, _, _, _, _, _, _, _, h, _ | .str _, .list _, _, _, _, _, _, _, _, _, _, _, h, _ | .str _, .tuple _, _, _, _, _, _, _, _, _, _, _, h, _ | .str _, .dict _, _, _, _, _, _, _, _, _, _, _, h, _ => by simp [cmpb] at h
  | .tuple _, .none, _, _, _, _, _, _, _, _, _, _, h, _ | .tuple _, .bool _, _, _, _, _, _, _, _, _, _, _, h, _ | .tuple _, .int _, _, _, _, _, _, _, _, _, _, _, h, _ | .tuple _, .list _, _, _, _, _, _, _, _, _, _, _, h, _ | .tuple _, .str _, _, _, _, _, _, _, _, _, _, _, h, _ | .tuple _, .dict _, _, _, _, _, _, _, _, _, _, _, h, _ => by simp [cmpb] at h
theorem lex_reads : ∀ (xs ys : List PyData) (A : Around) (s : Shared) (vs ws : List Value) (as bs : List Addr) (n1 n2 : Nat), ReadsAll s.heap vs xs as → ReadsAll s.heap ws ys bs → PyData.canLayAll0 xs = true → PyData.canLayAll0 ys = true → cmpbAll xs ys = true → A.units + min (PyData.depthAll xs) (PyData.depthAll ys) < cLine →
    xs.length + n2 = ys.length + n1 → LexAt A s (decide (n1 < n2)) (vs.zip ws) (ltAll xs ys)
  | [], [], A, s, _, _, _, _, n1, n2, h1, h2, _, _, _, _, e => by
    cases h1
    cases h2
    simp only [List.length_nil] at e
    show ltAll [] [] = decide (n1 < n2)
    simp only [ltAll]
    exact (decide_eq_false (by omega)).symm
  | [], y :: ys, A, s, _, _, _, _, n1, n2, h1, h2, _, _, _, _, e => by
    cases h1
    simp only [List.length_nil, List.length_cons] at e
    rw [List.zip_nil_left]
    show ltAll [] (y :: ys) = decide (n1 < n2)
    simp only [ltAll]
    exact (decide_eq_true (by omega)).symm
  | x :: xs, [], A, s, _, _, _, _, n1, n2, h1, h2, _, _, _, _, e => by
    cases h2
    simp only [List.length_nil, List.length_cons] at e
    rw [List.zip_nil_right]
    show ltAll (x :: xs) [] = decide (n1 < n2)
    simp only [ltAll]
    exact (decide_eq_false (by omega)).symm
  | x :: xs, y :: ys, A, s, _, _, _, _, n1, n2, h1, h2, c1, c2, hc, hu, e => by
    cases h1 with
    | cons q1 q2 =>
      cases h2 with
      | cons k1 k2 =>
        simp only [PyData.canLayAll0, Bool.and_eq_true] at c1 c2
        simp only [cmpbAll, Bool.and_eq_true] at hc
        simp only [PyData.depthAll] at hu
        simp only [List.length_cons] at e
        rw [List.zip_cons_cons]
        have he := SeqAt.eqAt_reads x y A s _ _ _ _ q1 k1 c1.1 c2.1 (by omega)
        refine ⟨PyData.eqv x y, he, ?_⟩
        rw [eqv_cmp x y hc.1]
        simp only [ltAll]
        by_cases z1 : ltD x y = true
        · refine .inr ⟨by rw [z1]; rfl, ?_⟩
          rw [if_pos z1, ← z1]
          exact lt_reads x y A s _ _ _ _ q1 k1 c1.1 c2.1 hc.1 (by omega)
        · have z1' : ltD x y = false := by simpa using z1
          by_cases z2 : ltD y x = true
          · refine .inr ⟨by rw [z2, Bool.not_true, Bool.and_false], ?_⟩
            rw [if_neg z1, if_pos z2, ← z1']
            exact lt_reads x y A s _ _ _ _ q1 k1 c1.1 c2.1 hc.1 (by omega)
          · have z2' : ltD y x = false := by simpa using z2
            refine .inl ⟨by rw [z1', z2']; rfl, ?_⟩
            rw [if_neg z1, if_neg z2]
            exact lex_reads xs ys A s _ _ _ _ n1 n2 q2 k2 c1.2 c2.2 hc.2 (by omega) (by omega)
end
/-- a < b, data that Python compares -/
theorem op_ltD {X : Cx} (hu : X.A.units + 64 < cLine) : OpR X (compareOp .Lt) (fun x y H Q => ∃ d e, Dp X.K H x d ∧ Dp X.K H y e ∧ SeqAt.shaped d = true ∧ SeqAt.shaped e = true ∧ cmpb d e = true ∧ Q (.bl (ltD d e)) H) := by
  intro pins s σ H x y v u Q I rx ry h
  obtain ⟨d, e, hd, he, sd, se, hc, q⟩ := h
  obtain ⟨as, r1⟩ := Dp.reads I d x v hd rx
  obtain ⟨bs, r2⟩ := Dp.reads I e y u he ry
  exact lt_reads d e X.A s v u as bs r1 r2 (SeqAt.canLay_of_shaped sd) (SeqAt.canLay_of_shaped se) hc (SeqAt.room_of_shaped sd hu) _ _ _ _ ⟨.bl _, H, I, rfl, q⟩
theorem je_ltD {X : Cx} {δ δ1 δ2 : DSt} {a b : Expr} {pos : Pos} {d e : PyData} {j : Nat} (hr : Room j X.A) (ha : JE X a δ δ1 (aD d)) (hb : JE X b δ1 δ2 (aD e)) (hd : SeqAt.shaped d = true) (he : SeqAt.shaped e = true) (hc : cmpb d e = true) : JE X (.Compare a [.Lt] [b] pos) δ δ2 (aB (ltD d e)) :=
  je_cmp (op_ltD hr.units) (fun B H x y Q s h1 h2 q => ⟨d, e, Dd.dp s _ _ h1, Dd.dp s _ _ h2, hd, he, hc, q _ B H (.refl B H) (.bl _)⟩) ha hb
end J
/-! set(xs) by any way of adding; sorted(..) of whatever is gathered. -/
namespace J
open PySem PySem.Spec PySem.Calls PyProof.Rows L2
section
variable {P : Program} {w : World} {A : Around} {E : Value → Shared → Prop} {s : Shared}
/-- how items are added: Inv i h says what the set at S holds of the first i, h0 is what stood before -/
structure Adds (P : Program) (w : World) (A : Around) (S : Addr) (h0 : Heap) (n : Nat) (Pv : Nat → Value → Prop) (Inv : Nat → Heap → Prop) : Prop where
  mv : ∀ i h h', Inv i h → (∀ o, h.get? S = some o → h'.get? S = some o) → (∀ b o, h0.get? b = some o → h'.get? b = some o) → Inv i h'
  add : ∀ i v (s : Shared) (Q : Bool → Shared → Prop) (E : Value → Shared → Prop), i < n → Pv i v → (∀ b o, h0.get? b = some o → s.heap.get? b = some o) → Inv i s.heap →
    (∀ x tk h', s.toks ≤ tk → Heap.SameBut S s.heap h' → Inv (i + 1) h' → Q x { s with heap := h', toks := tk }) → wpAny (model P w) A (setAdd S v) Q E s
theorem set_loopG {I S : Addr} {fp wr : List Addr} {G : Array GenState → Array GenState → Prop} {n : Nat} {Pv : Nat → Value → Prop} {St : Nat → Shared → Prop} {R : Result → Shared → Prop} {h0 : Heap} {Inv : Nat → Heap → Prop}
    (W : WalksS P w A.in1 I fp wr G n Pv St) (D : Adds P w A.in1 S h0 n Pv Inv) (hSf : S ∉ fp) (hS0 : h0.get? S = none) (hw0 : ∀ b ∈ wr, h0.get? b = none) :
    ∀ (k i : Nat) (s : Shared), i + k = n → St i s → (∀ b o, h0.get? b = some o → s.heap.get? b = some o) → Inv i s.heap →
      (∀ s', Moved (S :: wr) G s s' → Inv n s'.heap → (∀ b o, h0.get? b = some o → s'.heap.get? b = some o) → R (.ok (.ret .none)) s') → codeAny (model P w) A (.builtin "set.update.loop" ⟨[.ref S, .ref I], []⟩) R s := by
  have wide : ∀ b ∈ wr, b ∈ S :: wr := fun b hb => List.mem_cons_of_mem _ hb
  have hold : ∀ {x y : Shared}, Moved wr G x y → (∀ b o, h0.get? b = some o → x.heap.get? b = some o) → ∀ b o, h0.get? b = some o → y.heap.get? b = some o := fun m q b o e =>
    m.heap b o (fun z => by rw [hw0 b z] at e; cases e) (q b o e)
  intro k
  induction k with
  | zero =>
    intro i s e st q inv hR
    obtain rfl : i = n := by omega
    refine codeAny_builtin F.entry_set_update_loop ?_
    rw [Around.under_plainId F.plain_set_update_loop _]
    show wpAny _ A.in1 (pyNext (.ref I) >>= _) _ _ s
    refine wpAny_bind (W.done s _ _ st fun s' m => ?_)
    exact wpAny_pure (hR s' (m.mono wide) (D.mv i _ _ inv (fun o z => m.heap S o (fun y => hSf (W.sub _ y)) z) (hold m q)) (hold m q))
  | succ k ih =>
    intro i s e st q inv hR
    refine codeAny_builtin F.entry_set_update_loop ?_
    rw [Around.under_plainId F.plain_set_update_loop _]
    show wpAny _ A.in1 (pyNext (.ref I) >>= _) _ _ s
    refine wpAny_bind (W.item i s _ _ (by omega) st fun v s' pv st' m => ?_)
    have q' := hold m q
    show wpAny _ A.in1 (holding [v] (setAdd S v) >>= _) _ _ s'
    refine wpAny_bind (wpAny_holding (D.add i v s' _ _ (by omega) pv q' (D.mv i _ _ inv (fun o z => m.heap S o (fun y => hSf (W.sub _ y)) z) q') fun x tk h' le sb inv' => ?_))
    refine wpAny_pure ⟨plainId_quiet F.plain_set_update_loop _, ih (i + 1) _ (by omega) (W.frame _ s' _ _ st' le fun b hb o z => ?_) (fun b o z => ?_) inv' fun s'' m'' inv'' q'' => ?_⟩
    · rw [sb.2 b fun y => hSf (by rw [← y]; exact hb)]
      exact z
    · show h'.get? b = some o
      rw [sb.2 b fun y => by rw [y, hS0] at z; cases z]
      exact q' b o z
    · refine hR s'' (Moved.trans W.gtrans ((m.mono wide).then_heap le fun b o hb z => ?_) m'') inv'' q''
      rw [sb.2 b fun y => hb (by rw [y]; exact List.mem_cons_self)]
      exact z
end
section
variable {P : Program} {w : World} {A : Around} {E : Value → Shared → Prop} {s : Shared}
abbrev newSet (w : World) : Obj := { cls := .type "set", dict := none, data := .set #[] 0 (.fresh 0 0 (!w.params.followText "set-order")) }
/-- a list or a tuple -/
def IsSq (h : Heap) (l : Addr) (items : Array Value) : Prop := h.IsList l items ∨ h.IsTuple l items
theorem none_past {h : Heap} {b : Addr} (q : h.objs.size ≤ b) : h.get? b = none := by
  cases e : h.get? b with
  | none => rfl
  | some o => exact absurd (Nat.lt_of_lt_of_le (Heap.lt_size e) q) (Nat.lt_irrefl _)
theorem call_setG {l : Addr} {items : Array Value} {Inv : Nat → Heap → Prop} {Q : Value → Shared → Prop} (hh : A.handled = none) (hl : IsSq s.heap l items)
    (D : Adds P w A.in1.in1.in1 s.heap.objs.size s.heap items.size (fun i v => items[i]? = some v) Inv) (i0 : ∀ h, h.get? s.heap.objs.size = some (newSet w) → (∀ b o, s.heap.get? b = some o → h.get? b = some o) → Inv 0 h)
    (hQ : ∀ h' tk, Inv items.size h' → (∀ b o, s.heap.get? b = some o → h'.get? b = some o) → Q (.ref s.heap.objs.size) { s with heap := h', toks := tk }) :
    wpAny (model P w) A (call (.type "set") [.ref l]) Q E s := by
  obtain ⟨c, tl, g1⟩ := F.called_set.mro
  have g2 := F.called_set.made
  have g3 := F.called_set.sub
  refine wpAny_call (codeAny_of_tree ?_)
  show wpAny _ _ (callAny (.type "set") _) _ _ _
  refine wpAny_pure ⟨Code.quiet_builtin _ (by decide +kernel), codeAny_builtin F.entry_type_call ?_⟩
  rw [Around.under_plain (weight_type_call_type "set" [.ref l] []) rfl]
  have g4 := F.called_set.notType
  have g5 := F.called_set.canCreate
  have g6 := F.typeCall_set_1 (.ref l)
  repeat (any_goals (first | assumption | wp_step))
  refine codeAny_mono (code_set_led1 (.ref l) (E := E) (Q₁ := fun v s₁ => v = .ref s.heap.objs.size ∧ s₁ = { s with heap := s.heap.push (newSet w) }) ⟨rfl, rfl⟩) fun r s₁ hr => ?_
  cases r with
  | error e => exact hr
  | ok fl =>
    cases fl with
    | ret v =>
      obtain ⟨rfl, rfl⟩ := hr
      have hS : (s.heap.push (newSet w)).get? s.heap.objs.size = some (newSet w) := Heap.get?_push_size _ rfl
      have hT : Shared.TypeIs { s with heap := s.heap.push (newSet w) } (.ref s.heap.objs.size) "set" := ⟨_, hS, rfl⟩
      have g7 := F.called_set.init.lookup
      have g8 := F.called_set.init.bind (.ref s.heap.objs.size)
      repeat (any_goals (first | assumption | wp_step))
      refine codeAny_mono (codeAny_call_builtin (R := wants (fun r s₂ => r = .none ∧ ∃ h' tk, s₂ = { s with heap := h', toks := tk } ∧ Inv items.size h' ∧ (∀ b o, s.heap.get? b = some o → h'.get? b = some o)) E)
        F.called_set.init.plain F.entry_set_init (check_set_init_1 hT ?_)) fun r₂ s₂ hr₂ => ?_
      · rcases hl with hl | hl
        · obtain ⟨ol, hol, hcl, nl, hdl⟩ := hl
          obtain ⟨ocls, odict, odata, oslots⟩ := ol
          simp only at hcl hdl
          subst hcl
          subst hdl
          have hol' : (s.heap.push (newSet w)).get? l = some { cls := .type "list", dict := odict, data := .seq items nl, slots := oslots } := Heap.get?_push_of_some _ hol
          have f1 := F.sub_list_set
          have f2 := F.sub_list_frozenset
          have f3 : (Value.type "list" == Value.type "dict") = false := by decide
          have hl1 : (s.heap.push (newSet w)).IsList l items := ⟨_, hol', rfl, nl, rfl⟩
          have lS : l < s.heap.objs.size := Heap.lt_size hol
          have z1 : (s.heap.push (newSet w)).objs.size = s.heap.objs.size + 1 := Heap.size_push ..
          unfold Builtin.«set.__init__» noKeywords Builtin.Frozenset.updateFrom
          generalize hPI : pyIter = PI
          wp_walk
          subst hPI
          refine wpAny_pyIter_list hl1 ?_
          refine wpAny_bind (wpAny_runValue ?_)
          refine set_loopG (Inv := Inv) (h0 := s.heap) ((Walks.list (A := A.in1.in1.in1) (by simp [hh]) _ l (by rw [z1]; exact Nat.ne_of_lt (Nat.lt_succ_of_lt lS)) items).toS) D (by
              rw [z1]
              simp only [List.mem_cons, List.not_mem_nil, or_false, not_or]
              exact ⟨Nat.ne_of_lt (Nat.lt_succ_self _), Nat.ne_of_gt lS⟩) (none_past (Nat.le_refl _)) (fun b hb => none_past (by rw [List.mem_singleton.mp hb, z1]; omega)) (items.size - 0) 0 _ (by omega)
            ⟨⟨_, Heap.get?_push_size _ rfl, rfl, rfl⟩, hl1.push _⟩ (fun b o e => Heap.get?_push_of_some _ (Heap.get?_push_of_some _ e))
            (i0 _ (Heap.get?_push_of_some _ hS) fun b o e => Heap.get?_push_of_some _ (Heap.get?_push_of_some _ e)) fun s' m inv kp => ?_
          obtain ⟨h', g2, d', tk', os'⟩ := s'
          obtain rfl : g2 = s.gens := m.gens
          obtain rfl : d' = s.drawn := m.drawn
          obtain rfl : os' = s.os := m.os
          refine wpAny_pure ?_
          exact wpAny_pure ⟨rfl, h', tk', rfl, inv, kp⟩
        · obtain ⟨ol, hol, hcl, nl, hdl⟩ := hl
          obtain ⟨ocls, odict, odata, oslots⟩ := ol
          simp only at hcl hdl
          subst hcl
          subst hdl
          have hol' : (s.heap.push (newSet w)).get? l = some { cls := .type "tuple", dict := odict, data := .seq items nl, slots := oslots } := Heap.get?_push_of_some _ hol
          have f1 := F.sub_tuple_set
          have f2 := F.sub_tuple_frozenset
          have f3 : (Value.type "tuple" == Value.type "dict") = false := by decide
          have hl1 : (s.heap.push (newSet w)).IsTuple l items := ⟨_, hol', rfl, nl, rfl⟩
          have lS : l < s.heap.objs.size := Heap.lt_size hol
          have z1 : (s.heap.push (newSet w)).objs.size = s.heap.objs.size + 1 := Heap.size_push ..
          unfold Builtin.«set.__init__» noKeywords Builtin.Frozenset.updateFrom
          generalize hPI : pyIter = PI
          wp_walk
          subst hPI
          refine wpAny_pyIter_tuple hl1 ?_
          refine wpAny_bind (wpAny_runValue ?_)
          refine set_loopG (Inv := Inv) (h0 := s.heap) ((Walks.tuple (A := A.in1.in1.in1) (by simp [hh]) _ l (by rw [z1]; exact Nat.ne_of_lt (Nat.lt_succ_of_lt lS)) items).toS) D (by
              rw [z1]
              simp only [List.mem_cons, List.not_mem_nil, or_false, not_or]
              exact ⟨Nat.ne_of_lt (Nat.lt_succ_self _), Nat.ne_of_gt lS⟩) (none_past (Nat.le_refl _)) (fun b hb => none_past (by rw [List.mem_singleton.mp hb, z1]; omega)) (items.size - 0) 0 _ (by omega)
            ⟨⟨_, Heap.get?_push_size _ rfl, rfl, rfl⟩, hl1.push _⟩ (fun b o e => Heap.get?_push_of_some _ (Heap.get?_push_of_some _ e))
            (i0 _ (Heap.get?_push_of_some _ hS) fun b o e => Heap.get?_push_of_some _ (Heap.get?_push_of_some _ e)) fun s' m inv kp => ?_
          obtain ⟨h', g2, d', tk', os'⟩ := s'
          obtain rfl : g2 = s.gens := m.gens
          obtain rfl : d' = s.drawn := m.drawn
          obtain rfl : os' = s.os := m.os
          refine wpAny_pure ?_
          exact wpAny_pure ⟨rfl, h', tk', rfl, inv, kp⟩
      · cases r₂ with
        | error e => exact hr₂
        | ok f2 =>
          cases f2 with
          | ret r =>
            obtain ⟨rfl, h', tk, rfl, inv, kp⟩ := hr₂
            repeat (any_goals (first | assumption | wp_step))
            exact hQ _ _ inv kp
          | _ => exact hr₂.elim
    | _ => exact hr.elim
end
end J
/-! sorted(..) of data. -/
namespace J
open PySem PySem.Spec L2
open PySem.W (alike alikeAll dataLt keyToksAll AllAlike Sortable EachIs dataLe)

mutual
theorem cmp_alike : ∀ x y : PyData, cmpb x y = true → alike x y = true
  | .int _, .int _, _ => by simp [alike]
  | .str _, .str _, _ => by simp [alike]
  | .tuple xs, .tuple ys, h => by
    simp only [cmpb] at h
    simp only [alike]
    exact cmpAll_alike xs ys h
  | .none, _, h => by simp [cmpb] at h
  | .bool _, _, h => by simp [cmpb] at h
  | .list _, _, h => by simp [cmpb] at h
  | .dict _, _, h => by simp [cmpb] at h
  | .int _, .none, h | .int _, .bool _, h | .int _, .str _, h | .int _, .list _, h | .int _, .tuple _, h | .int _, .dict _, h => by simp [cmpb] at h
  | .str _, .none, h | .str _, .bool _, h | .str _, .int _, h | .str _, .list _, h | .str _, .tuple _, h | .str _, .dict _, h => by simp [cmpb] at h
  | .tuple _, .none, h | .tuple _, .bool _, h | .tuple _, .int _, h | .tuple _, .list _, h | .tuple _, .str _, h | .tuple _, .dict _, h => by simp [cmpb] at h
theorem cmpAll_alike : ∀ xs ys : List PyData, cmpbAll xs ys = true → alikeAll xs ys = true
  | [], _, _ => by simp [alikeAll]
  | _ :: _, [], _ => by simp [alikeAll]
  | x :: xs, y :: ys, h => by
    simp only [cmpbAll, Bool.and_eq_true] at h
    simp only [alikeAll, Bool.and_eq_true]
    exact ⟨cmp_alike x y h.1, cmpAll_alike xs ys h.2⟩
end
mutual
theorem dataLt_ltD : ∀ x y : PyData, cmpb x y = true → dataLt x y = ltD x y
  | .int a, .int b, _ => by
    rw [PySem.W.dataLt_int]
    simp only [ltD]
  | .str a, .str b, _ => by
    rw [PySem.W.dataLt_str]
    simp only [ltD]
  | .tuple xs, .tuple ys, h => by
    simp only [cmpb] at h
    rw [PySem.W.dataLt_tuple]
    simp only [ltD]
    exact rowLt_ltAll xs ys h
  | .none, _, h => by simp [cmpb] at h
  | .bool _, _, h => by simp [cmpb] at h
  | .list _, _, h => by simp [cmpb] at h
  | .dict _, _, h => by simp [cmpb] at h
  | .int _, .none, h | .int _, .bool _, h | .int _, .str _, h | .int _, .list _, h | .int _, .tuple _, h | .int _, .dict _, h => by simp [cmpb] at h
  | .str _, .none, h | .str _, .bool _, h | .str _, .int _, h | .str _, .list _, h | .str _, .tuple _, h | .str _, .dict _, h => by simp [cmpb] at h
  | .tuple _, .none, h | .tuple _, .bool _, h | .tuple _, .int _, h | .tuple _, .list _, h | .tuple _, .str _, h | .tuple _, .dict _, h => by simp [cmpb] at h
theorem rowLt_ltAll : ∀ xs ys : List PyData, cmpbAll xs ys = true → PyProof.Rows.lexLt PyProof.Rows.itemOrd (keyToksAll xs) (keyToksAll ys) = ltAll xs ys
  | [], [], _ => by
    simp only [ltAll]
    exact PyProof.Rows.lex_irrefl _
  | [], y :: ys, _ => by
    simp only [ltAll, keyToksAll]
    first | rfl | (simp [PyProof.Rows.lex_cons, PyProof.Rows.itemLt]; done) | decide
  | x :: xs, [], _ => by
    simp only [ltAll, keyToksAll]
    first | rfl | (simp [PyProof.Rows.lex_cons, PyProof.Rows.itemLt]; done) | decide
  | x :: xs, y :: ys, h => by
    simp only [cmpbAll, Bool.and_eq_true] at h
    rw [PySem.W.dataLt_cons (cmp_alike x y h.1), eqv_cmp x y h.1, dataLt_ltD x y h.1, rowLt_ltAll xs ys h.2]
    simp only [ltAll]
    by_cases h1 : ltD x y = true
    · rw [h1]
      rfl
    · have h1' : ltD x y = false := by simpa using h1
      rw [h1']
      by_cases h2 : ltD y x = true
      · rw [h2]
        rfl
      · have h2' : ltD y x = false := by simpa using h2
        rw [h2']
        rfl
end
/-- data that sorted takes: comparable, all tuples that are not empty or none a tuple -/
structure SrtOk (ds : List PyData) : Prop where
  cmp : ∀ d ∈ ds, ∀ e ∈ ds, cmpb d e = true
  kind : Sortable ds
  shp : ∀ d ∈ ds, SeqAt.shaped d = true
/-- .. sorted -/
def srtD (ds : List PyData) : List PyData := ds.mergeSort fun a b => !ltD b a
theorem srtD_perm (ds : List PyData) : (srtD ds).Perm ds := List.mergeSort_perm _ _
theorem mergeSort_congr {α : Type} {r s : α → α → Bool} {l : List α} (h : ∀ a ∈ l, ∀ b ∈ l, r a b = s a b) : l.mergeSort r = l.mergeSort s := by
  have e := List.map_mergeSort (r := r) (s := s) (f := id) (l := l) h
  rw [List.map_id, List.map_id] at e
  exact e

/-! ### what is gathered -/
section
variable {P : Program} {w : World} {A : Around} {E : Value → Shared → Prop} {s : Shared}
open PySem.Calls PyProof.Rows in
/-- sorted of what gathers to vs -/
theorem sorted_coll {src : Value} {Q : Value → Shared → Prop} {β : Type} {R : Value → β → Prop} {enc : β → PyData} (G : List β → Prop)
    (coll : ∀ (Q' : List Value → Shared → Prop) (E' : Value → Shared → Prop), (∀ vs bs s', (∀ b o, s.heap.get? b = some o → s'.heap.get? b = some o) → s'.gens = s.gens → s'.os = s.os → G bs → EachIs R vs bs → Q' vs s') → wpAny (model P w) A.in1 (collect src) Q' E' s)
    (rd : ∀ v b, R v b → ∃ as, Reads s.heap v (enc b) as) (hL : ∀ bs, G bs → bs.length ≤ sizeLine) (hal : ∀ bs, G bs → AllAlike (bs.map enc)) (hk : ∀ bs, G bs → Sortable (bs.map enc)) (hu : ∀ bs, G bs → ∀ b ∈ bs, A.units + 2 + (enc b).depth < cLine)
    (hQ : ∀ bs s' p out c, G bs → (∀ b o, s.heap.get? b = some o → s'.heap.get? b = some o) → s.heap.get? p = none → s'.gens = s.gens → s'.os = s.os → s'.heap.get? p = some (seqObj "list" out c) → EachIs R out.toList (bs.mergeSort (dataLe false enc)) → Q (.ref p) s') :
    wpAny (model P w) A (call (.builtin "sorted") [src]) Q E s := by
  refine Calls.call_function_entry kind_sorted plain_sorted entry_sorted (args_sorted1 _) ?_
  unfold Builtin.«sorted»
  refine wpAny_bind (m := checkCount "sorted" 1 1 _) (wpAny_pure ?_)
  refine wpAny_bind (coll _ _ fun vs bs s1 k1 g1 o1 g e => ?_)
  have hl := e.length
  have z1 : s.heap.get? s1.heap.objs.size = none := by
    cases q : s.heap.get? s1.heap.objs.size with
    | none => rfl
    | some o => exact absurd (Heap.lt_size (k1 _ _ q)) (Nat.lt_irrefl _)
  refine wpAny_bind (wpAny_newList ?_ (by rw [hl]; exact hL bs g))
  have hoL : (s1.heap.push (seqObj "list" vs.toArray 0)).get? s1.heap.objs.size = some (seqObj "list" vs.toArray 0) := Heap.get?_push_size _ rfl
  have k2 : ∀ b o, s.heap.get? b = some o → (PySem.W.sortingHeap (s1.heap.push (seqObj "list" vs.toArray 0)) s1.heap.objs.size vs).get? b = some o := fun b o q =>
    PySem.W.sortingHeap_old (Nat.ne_of_lt (Heap.lt_size (k1 b o q))) (Heap.get?_push_of_some _ (k1 b o q))
  refine wpAny_bind (wpAny_holding (wpAny_call_entry slot_list_sort ⟨_, hoL, rfl⟩ entry_list_sort (PySem.W.list_sort_vals (κ := PySem.W.dataKind (PySem.W.sortingHeap (s1.heap.push (seqObj "list" vs.toArray 0)) s1.heap.objs.size vs) (bs.map enc)) hoL
    (PySem.W.SortsAt.data (s := { s1 with heap := PySem.W.sortingHeap (s1.heap.push (seqObj "list" vs.toArray 0)) s1.heap.objs.size vs }) (PySem.W.each_map (R := fun v d => ∃ as, Reads (PySem.W.sortingHeap (s1.heap.push (seqObj "list" vs.toArray 0)) s1.heap.objs.size vs) v d as) enc
      (e.mono fun v b r => let ⟨as, q⟩ := rd v b r; ⟨as, PyProof.Rows.Reads.keeps k2 q⟩)) (hal bs g) (hk bs g) (PySem.W.bound_map (A := A.in1.in1) (hu bs g))) (by rw [hl]; exact hL bs g) ⟨.none, rfl, ?_⟩) (args_list_sort _)))
  have er : EachIs (fun v b => ∃ as, Reads (PySem.W.sortingHeap (s1.heap.push (seqObj "list" vs.toArray 0)) s1.heap.objs.size vs) v (enc b) as) vs bs := e.mono fun v b r => let ⟨as, q⟩ := rd v b r; ⟨as, PyProof.Rows.Reads.keeps k2 q⟩
  have fin := PySem.W.sortVals_data (h' := PySem.W.sortingHeap (s1.heap.push (seqObj "list" vs.toArray 0)) s1.heap.objs.size vs) false e er (hal bs g)
  obtain ⟨c, hc⟩ := sortedHeap_at (vs := vs) (out := (PySem.W.sortVals (PySem.W.dataKind (PySem.W.sortingHeap (s1.heap.push (seqObj "list" vs.toArray 0)) s1.heap.objs.size vs) (bs.map enc)) false vs vs).toArray) hoL
  refine wpAny_pure ⟨_, rfl, hQ bs _ s1.heap.objs.size _ c g (fun b o q => ?_) z1 g1 o1 hc (by simpa using fin)⟩
  have q1 := k1 b o q
  have hlt := Heap.lt_size q1
  show (sortedHeap (s1.heap.push (seqObj "list" vs.toArray 0)) s1.heap.objs.size vs _).get? b = some o
  rw [sortedHeap_old (Nat.ne_of_lt hlt) (by rw [size_push']; exact Nat.lt_succ_of_lt hlt)]
  exact Heap.get?_push_of_some _ q1
end
end J
/-! Sets of plain values (texts, ints): set(xs). -/
namespace J
open PySem PySem.Spec PyProof.Rows L2
section
variable {P : Program} {w : World} {A : Around} {E : Value → Shared → Prop} {s : Shared} {K : Type} [DecidableEq K] {knd : KeyKind P w K} {a : Addr}
/-- a set's object at a, its entries in some order those of R; it can be walked -/
structure SetG (w : World) (h : Heap) (a : Addr) (R : List (Int × Value)) : Prop where
  ex : ∃ o es ep t, h.get? a = some o ∧ o.ExactSet ∧ o.data = .set es ep t ∧ es.toList.Perm R ∧ es.size < scanBound ∧ t.fits es.size = true ∧ Ris t.place.toList ∧ (w.params.followText "set-order" = true ∨ t.led = true)
theorem SetG.at {h h' : Heap} {R : List (Int × Value)} (G : SetG w h a R) (k : ∀ o, h.get? a = some o → h'.get? a = some o) : SetG w h' a R := by
  obtain ⟨o, es, ep, t, h1, r⟩ := G.ex
  exact ⟨o, es, ep, t, k o h1, r⟩
/-- the entry of a value under its key -/
def ent (knd : KeyKind P w K) (p : Value × K) : Int × Value := (knd.hash p.2, p.1)
/-- values under their keys, plain ones -/
def Plain (knd : KeyKind P w K) (L : List (Value × K)) : Prop := ∀ p ∈ L, knd.is p.2 p.1 = true ∧ p.1.scannable = true
theorem Plain.elems {L : List (Value × K)} {es : List (Int × Value)} (h : Plain knd L) (p : es.Perm (L.map (ent knd))) : ElemsOf knd es := fun e he => by
  obtain ⟨q, hq, rfl⟩ := List.mem_map.mp (p.mem_iff.mp he)
  exact ⟨⟨q.2, (h q hq).1, rfl⟩, (h q hq).2⟩
theorem setS_tail {g : Bool → Sem Unit} (hg : ∀ (b : Bool) (s₁ : Shared) (Q' : Unit → Shared → Prop), Q' () s₁ → wpAny (model P w) A (g b) Q' E s₁) {o : Obj} {es : Array (Int × Value)} {ep : Nat} {t : SetTable} (ho : s.heap.get? a = some o) (hex : o.ExactSet)
    (hd : o.data = .set es ep t) {es1 : Array (Int × Value)} {t2 : SetTable} {R1 : List (Int × Value)} (p1 : es1.toList.Perm R1) (hb1 : es1.size < scanBound) (hf2 : t2.fits es1.size = true) (hr : Ris t2.place.toList)
    (hl : w.params.followText "set-order" = true ∨ t2.led = true) {wasDummy : Bool} {R : Option Bool → Shared → Prop} (hR : ∀ h', Heap.SameBut a s.heap h' → SetG w h' a R1 → R (some true) { s with heap := h' }) :
    wpAny (model P w) A (do
        storeSet a es1 t2
        if (!wasDummy && t2.tooFull) = true then do
            g (relayAll t2 es1 (SetTable.grown es1.size)).2.2
            storeSet a (relayAll t2 es1 (SetTable.grown es1.size)).1 (relayAll t2 es1 (SetTable.grown es1.size)).2.1
            pure (some true)
          else pure (some true)) R E s := by
  refine wpAny_bind (wpAny_storeSet_of ho hd ?_ (fits_of_scanBound hb1))
  have ho1 := store_at (es' := es1) (t' := t2) ho hd
  have sb1 := Heap.SameBut.update s.heap a (Obj.putSet es1 t2)
  split
  · have q1 := relayAll_perm t2 es1 (SetTable.grown es1.size)
    have q2 := relayAll_fits t2 es1 (SetTable.grown es1.size)
    have q3 := relayAll_ris t2 es1 (SetTable.grown es1.size)
    have q4 := relayAll_led t2 es1 (SetTable.grown es1.size)
    generalize relayAll t2 es1 (SetTable.grown es1.size) = Z at q1 q2 q3 q4 ⊢
    obtain ⟨es2, t3, gave⟩ := Z
    dsimp only at q1 q2 q3 q4 ⊢
    have hb2 : es2.size < scanBound := by
      rw [← Array.length_toList, q1.length_eq, Array.length_toList]
      exact hb1
    refine wpAny_bind (hg _ _ _ ?_)
    refine wpAny_bind (wpAny_storeSet_of ho1 rfl ?_ (fits_of_scanBound hb2))
    refine wpAny_pure (hR _ (sb1.trans (Heap.SameBut.update _ a _)) ⟨_, es2, _, t3, store_at (es' := es2) (t' := t3) ho1 rfl, hex, rfl, q1.trans p1, hb2, q2, q3, hl.imp id fun z => by rw [q4]; exact z⟩)
  · exact wpAny_pure (hR _ sb1 ⟨_, es1, _, t2, ho1, hex, rfl, p1, hb1, hf2, hr, hl⟩)
/-- a plain value is added -/
theorem setS_add {v : Value} {k : K} {L : List (Value × K)} {Q : Bool → Shared → Prop} (hk : knd.is k v = true) (hv : v.scannable = true) (G : SetG w s.heap a (L.map (ent knd))) (pl : Plain knd L) (room : L.length + 1 < scanBound)
    (hQ : ∀ x h', Heap.SameBut a s.heap h' → SetG w h' a ((if k ∈ L.map (·.2) then L else L ++ [(v, k)]).map (ent knd)) → Q x { s with heap := h' }) : wpAny (model P w) A (setAddHashed a v (knd.hash k)) Q E s := by
  obtain ⟨o, es, ep, t, ho, hex, hd, hp, hb, hf, hr, hl⟩ := G.ex
  have hel : ElemsOf knd es.toList := pl.elems hp
  unfold setAddHashed setAddHashedIn
  refine wpAny_holding (wpAny_bind (wpAny_setState_of ho hd hf ?_))
  dsimp only
  rw [byScan_of hv hb hel]
  simp only [↓reduceIte]
  unfold setAddByScan
  refine wpAny_bind ?_
  refine wpAny_bind (wpAny_rule ?_)
  refine wpAny_bind (wpAny_setScan_of hk ho hd hf hel ?_)
  cases hfi : List.findIdx? (fun e => knd.is k e.2) es.toList with
  | some j =>
    dsimp only
    obtain ⟨hj, pj, _⟩ := List.findIdx?_eq_some_iff_getElem.mp hfi
    have hm : k ∈ L.map (·.2) := by
      obtain ⟨q, hq, e⟩ := List.mem_map.mp (hp.mem_iff.mp (List.getElem_mem hj))
      refine List.mem_map.mpr ⟨q, hq, knd.inj q.1 _ _ (pl q hq).1 ?_⟩
      rw [← e] at pj
      exact pj
    refine wpAny_pure (wpAny_pure ?_)
    have q := hQ false s.heap (Heap.SameBut.refl a s.heap)
    rw [if_pos hm] at q
    exact q G
  | none =>
    dsimp only
    have hm : k ∉ L.map (·.2) := fun z => by
      obtain ⟨q, hq, e⟩ := List.mem_map.mp z
      have c := List.findIdx?_eq_none_iff.mp hfi (ent knd q) (hp.mem_iff.mpr (List.mem_map.mpr ⟨q, hq, rfl⟩))
      have d := (pl q hq).1
      rw [e] at d
      exact absurd (c.symm.trans d) (by decide)
    have gv : ∀ (b : Bool) {s₁ : Shared} {Q' : Unit → Shared → Prop}, Q' () s₁ → wpAny (model P w) A (match b with | true => rule "set.scan.the-table-gave-way" | false => pure ()) Q' E s₁ :=
      fun b s₁ Q' q => by cases b <;> first | exact wpAny_pure q | exact wpAny_rule q
    have q1 := layNew_perm t es (knd.hash k) v
    have q2 := layNew_fits t es (knd.hash k) v
    have q3 := layNew_ris t es (knd.hash k) v hr
    have q4 := layNew_led t es (knd.hash k) v
    generalize layNew t es (knd.hash k) v = Z at q1 q2 q3 q4 ⊢
    obtain ⟨es1, t1, wasDummy, gave⟩ := Z
    dsimp only at q1 q2 q3 q4 ⊢
    rw [Array.toList_push] at q1
    have pc : es1.toList.Perm ((L ++ [(v, k)]).map (ent knd)) := by
      rw [List.map_append]
      exact q1.trans (hp.append_right _)
    have hsz : es1.size = L.length + 1 := by
      have e := pc.length_eq
      rw [Array.length_toList, List.length_map, List.length_append] at e
      exact e
    have hb1 : es1.size < scanBound := by rw [hsz]; exact room
    have led : w.params.followText "set-order" = true ∨ t1.led = true := hl.imp id fun z => by rw [q4]; exact z
    have fin : ∀ h', Heap.SameBut a s.heap h' → SetG w h' a ((L ++ [(v, k)]).map (ent knd)) → Q true { s with heap := h' } := fun h' sb r => by
      have q := hQ true h' sb
      rw [if_neg hm] at q
      exact q r
    refine wpAny_bind (gv _ ?_)
    split
    · refine wpAny_bind ?_
      rw [hashByValue_scannable 8 hv]
      refine wpAny_pure ?_
      refine setS_tail ?_ ho hex hd pc hb1 ?_ ?_ ?_ ?_
      · intro b s₁ Q' q; cases b <;> first | exact wpAny_pure q | exact wpAny_rule q
      · first | (split <;> first | exact q2 | exact SetTable.fits_plain_off q2) | exact q2
      · first | (split <;> exact q3) | exact q3
      · first | (split <;> exact led) | exact led
      · intro h' sb r; dsimp only; exact wpAny_pure (fin h' sb r)
    · refine wpAny_bind (wpAny_pure ?_)
      simp only [↓reduceIte]
      refine setS_tail ?_ ho hex hd pc hb1 q2 q3 led ?_
      · intro b s₁ Q' q; cases b <;> first | exact wpAny_pure q | exact wpAny_rule q
      · intro h' sb r; dsimp only; exact wpAny_pure (fin h' sb r)
/-- the first of each key -/
def firsts : List (Value × K) → List (Value × K)
  | L => L.foldl (fun M p => if p.2 ∈ M.map (·.2) then M else M ++ [p]) []
theorem firsts_snoc (L : List (Value × K)) (p : Value × K) : firsts (L ++ [p]) = if p.2 ∈ (firsts L).map (·.2) then firsts L else firsts L ++ [p] := by
  unfold firsts
  rw [List.foldl_append]
  rfl
theorem firsts_ok (L : List (Value × K)) : (∀ p ∈ firsts L, p ∈ L) ∧ (∀ p ∈ L, p.2 ∈ (firsts L).map (·.2)) ∧ ((firsts L).map (·.2)).Nodup ∧ (firsts L).length ≤ L.length := by
  suffices h : ∀ M : List (Value × K), (∀ p ∈ firsts M.reverse, p ∈ M.reverse) ∧ (∀ p ∈ M.reverse, p.2 ∈ (firsts M.reverse).map (·.2)) ∧ ((firsts M.reverse).map (·.2)).Nodup ∧ (firsts M.reverse).length ≤ M.reverse.length by
    have e := h L.reverse
    rw [List.reverse_reverse] at e
    exact e
  intro M
  induction M with
  | nil => exact ⟨fun p h => (nomatch h), fun p h => (nomatch h), List.nodup_nil, Nat.le_refl _⟩
  | cons p M ih =>
    obtain ⟨h1, h2, h3, h4⟩ := ih
    rw [List.reverse_cons, firsts_snoc]
    by_cases q : p.2 ∈ (firsts M.reverse).map (·.2)
    · rw [if_pos q]
      refine ⟨fun x hx => List.mem_append_left _ (h1 x hx), fun x hx => ?_, h3, ?_⟩
      · rcases List.mem_append.mp hx with z | z
        · exact h2 x z
        · rw [List.mem_singleton.mp z]
          exact q
      · rw [List.length_append]
        omega
    · rw [if_neg q]
      refine ⟨fun x hx => ?_, fun x hx => ?_, ?_, ?_⟩
      · rcases List.mem_append.mp hx with z | z
        · exact List.mem_append_left _ (h1 x z)
        · exact List.mem_append_right _ z
      · rw [List.map_append]
        rcases List.mem_append.mp hx with z | z
        · exact List.mem_append_left _ (h2 x z)
        · rw [List.mem_singleton.mp z]
          exact List.mem_append_right _ (List.mem_singleton.mpr rfl)
      · rw [List.map_append, List.nodup_append]
        refine ⟨h3, by simp, fun x hx y hy e => ?_⟩
        rw [List.map_singleton, List.mem_singleton] at hy
        rw [e, hy] at hx
        exact q hx
      · rw [List.length_append, List.length_append]
        show _ + 1 ≤ _ + 1
        omega
theorem setG_new {h : Heap} (e : h.get? a = some (newSet w)) : SetG w h a [] :=
  ⟨⟨_, #[], 0, _, e, ⟨rfl, rfl, rfl⟩, rfl, List.Perm.refl _, (by decide), (by rfl), List.Pairwise.nil, by
    show _ ∨ (!w.params.followText "set-order") = true
    cases w.params.followText "set-order"
    · exact .inr rfl
    · exact .inl rfl⟩⟩
/-- set(xs), plain values -/
theorem call_setS {l : Addr} {items : Array Value} (L : List (Value × K)) {Q : Value → Shared → Prop} (hh : A.handled = none) (hl : IsSq s.heap l items) (hi : items.toList = L.map (·.1)) (pl : Plain knd L) (hb : L.length + 1 < scanBound)
    (hQ : ∀ h' tk, SetG w h' s.heap.objs.size ((firsts L).map (ent knd)) → (∀ b o, s.heap.get? b = some o → h'.get? b = some o) → Q (.ref s.heap.objs.size) { s with heap := h', toks := tk }) :
    wpAny (model P w) A (call (.type "set") [.ref l]) Q E s := by
  have hsz : items.size = L.length := by
    have e := congrArg List.length hi
    rw [Array.length_toList, List.length_map] at e
    exact e
  refine call_setG (Inv := fun i h => SetG w h s.heap.objs.size ((firsts (L.take i)).map (ent knd))) hh hl ⟨fun i h h' G k _ => G.at k, fun i v s1 Q1 E1 hi1 hv _ G q => ?_⟩ (fun h e _ => setG_new e) fun h' tk G k => ?_
  · have hp : ∃ p, L[i]? = some p ∧ p.1 = v := by
      have e : items.toList[i]? = some v := by rw [Array.getElem?_toList]; exact hv
      rw [hi, List.getElem?_map] at e
      cases z : L[i]? with
      | none => rw [z] at e; cases e
      | some p =>
        rw [z] at e
        exact ⟨p, rfl, Option.some.inj e⟩
    obtain ⟨p, hp, rfl⟩ := hp
    have hm := List.mem_of_getElem? hp
    have e : L.take (i + 1) = L.take i ++ [p] := by
      rw [List.take_add_one, hp]
      rfl
    unfold setAdd
    refine wpAny_holding ?_
    refine wpAny_bind (knd.pyHash (pl p hm).1 ?_)
    have F := firsts_ok (L.take i)
    refine setS_add (s := { s1 with toks := s1.toks + 1 }) (pl p hm).1 (pl p hm).2 G (fun x hx => pl x (List.mem_of_mem_take (F.1 x hx))) ?_ fun x h' sb G' => q x _ h' (Nat.le_succ _) sb ?_
    · have := F.2.2.2
      have := List.length_take_le i L
      omega
    · rw [e, firsts_snoc]
      exact G'
  · rw [hsz, List.take_length] at G
    exact hQ h' tk G k
end
end J
/-! Sets of tuples of plain values: set(xs), fewer than 64 members. -/
namespace J
open PySem PySem.Spec PyProof.Rows L2
section
variable {P : Program} {w : World} {A : Around} {E : Value → Shared → Prop} {s : Shared} {K : Type} [DecidableEq K] {knd : KeyKind P w K} {a : Addr}
abbrev KT (K : Type) := Addr × List K
abbrev hT (knd : KeyKind P w K) (p : KT K) : Int := tupleKeyHash knd p.2
def entT (knd : KeyKind P w K) (p : KT K) : Int × Value := (hT knd p, .ref p.1)
/-! ### questions asked of tuples -/
theorem plain_cls {v : Value} (h : carriedByValue v = true) (n : Nat) : ofAClassStatement n v = pure false := by
  cases v <;> first | (cases n <;> rfl) | exact absurd h (by simp [carriedByValue])
theorem tup_cls {ks : List K} {b : Addr} {Q : Bool → Shared → Prop} (x : IsTupleKey knd s.heap ks b) (h : Q false s) : wpAny (model P w) A (ofAClassStatement 8 (.ref b)) Q E s := by
  have ty := x.typeIs
  obtain ⟨o, items, n, ho, _, hd, hi⟩ := x
  unfold ofAClassStatement
  refine wpAny_bind (wpAny_typeOf ty ?_)
  dsimp only
  simp only [show (("tuple" : String) == "tuple") = true from by decide, if_true, Bool.not_true, Bool.false_eq_true, if_false]
  try refine wpAny_bind (wpAny_pure ?_)
  try simp only [Bool.not_true, Bool.false_eq_true, if_false]
  show wpAny _ _ (seqItems? (.ref b) >>= _) _ _ s
  refine wpAny_bind (wpAny_seqItems ho hd (wpAny_bind ?_))
  show wpAny _ _ (forIn items _ _) _ _ s
  rw [← Array.forIn_toList]
  refine wpAny_forIn_list _ (fun more r s' => r.1 = none ∧ s' = s ∧ ∀ v ∈ more, carriedByValue v = true) _ ?_ ?_ _ _ ⟨rfl, rfl, hi.byValue⟩
  · rintro v more r s' ⟨hr, rfl, al⟩
    rw [plain_cls (al v List.mem_cons_self)]
    refine wpAny_bind (wpAny_pure ?_)
    simp only [Bool.false_eq_true, if_false]
    exact wpAny_pure ⟨rfl, rfl, fun u hu => al u (List.mem_cons_of_mem _ hu)⟩
  · rintro ⟨r1, r2⟩ s' ⟨hr, rfl, _⟩
    obtain rfl : r1 = none := hr
    exact wpAny_pure h
/-- each item's hash is asked of the item alone -/
def Scans (knd : KeyKind P w K) : Prop := ∀ k v, knd.is k v = true → v.scannable = true
theorem items_scan (sc : Scans knd) {ks : List K} {vs : List Value} (h : ItemsAre knd ks vs) : ∀ v ∈ vs, v.scannable = true := by
  induction h with
  | nil => exact fun v z => nomatch z
  | cons h1 _ ih =>
    intro v hv
    rcases List.mem_cons.mp hv with rfl | hv
    · exact sc _ _ h1
    · exact ih v hv
theorem tup_byV (sc : Scans knd) {ks : List K} {b : Addr} {Q : Bool → Shared → Prop} (x : IsTupleKey knd s.heap ks b) (h : ∀ r, Q r s) : wpAny (model P w) A (hashByValue 8 (.ref b)) Q E s := by
  have ty := x.typeIs
  obtain ⟨o, items, n, ho, _, hd, hi⟩ := x
  unfold hashByValue
  refine wpAny_bind (wpAny_specialOf ty F.slot_tuple_hash.lookup ?_)
  show wpAny _ _ (seqItems? (.ref b) >>= _) _ _ s
  refine wpAny_bind (wpAny_seqItems ho hd (wpAny_bind ?_))
  show wpAny _ _ (forIn items _ _) _ _ s
  rw [← Array.forIn_toList]
  refine wpAny_forIn_list _ (fun more r s' => s' = s ∧ ∀ v ∈ more, v.scannable = true) _ ?_ ?_ _ _ ⟨rfl, items_scan sc hi⟩
  · rintro v more r s' ⟨rfl, al⟩
    rw [hashByValue_scannable _ (al v List.mem_cons_self)]
    refine wpAny_bind (wpAny_pure ?_)
    cases plainKind v with
    | true =>
      simp only [Bool.not_true, Bool.false_eq_true, if_false]
      exact wpAny_pure ⟨rfl, fun u hu => al u (List.mem_cons_of_mem _ hu)⟩
    | false =>
      simp only [Bool.not_false, if_true]
      exact wpAny_pure (wpAny_pure (h _))
  · rintro ⟨r1, r2⟩ s' h'
    have e : s' = s := by first | exact h'.1 | exact h'
    subst e
    cases r1 with
    | none => exact wpAny_pure (h _)
    | some r => exact wpAny_pure (h _)
theorem tup_seen {ks : List K} {b : Addr} {Q : Bool → Shared → Prop} (x : IsTupleKey knd s.heap ks b) {ys : List Value} (hy : ∀ y ∈ ys, ∃ k c, y = Value.ref c ∧ IsTupleKey knd s.heap k c) (h : Q false s) : wpAny (model P w) A (searchCouldBeSeen (.ref b) ys) Q E s := by
  unfold searchCouldBeSeen
  refine wpAny_bind ?_
  refine wpAny_forIn_list _ (fun more r s' => r.1 = none ∧ s' = s ∧ ∀ y ∈ more, ∃ k c, y = Value.ref c ∧ IsTupleKey knd s.heap k c) _ ?_ ?_ _ _ ⟨rfl, rfl, hy⟩
  · rintro v more r s' ⟨hr, rfl, al⟩
    obtain ⟨k, c, rfl, y⟩ := al v List.mem_cons_self
    have al' : ∀ y ∈ more, ∃ k c, y = Value.ref c ∧ IsTupleKey knd s'.heap k c := fun u hu => al u (List.mem_cons_of_mem _ hu)
    dsimp only
    by_cases q : (b == c || (carriedByValue (.ref b) && carriedByValue (.ref c))) = true
    · exact wp_if_pos q (wpAny_pure ⟨rfl, rfl, al'⟩)
    · refine wp_if_neg q ?_
      refine wpAny_bind (wpAny_eqIsQuiet_tuple x ?_)
      simp only [Bool.not_true, Bool.false_eq_true, if_false]
      refine wpAny_bind (wpAny_eqIsQuiet_tuple y ?_)
      simp only [Bool.not_true, Bool.false_eq_true, if_false]
      refine wpAny_bind (tup_cls x ?_)
      simp only [Bool.false_eq_true, if_false]
      refine wpAny_bind (tup_cls y ?_)
      simp only [Bool.false_eq_true, if_false]
      exact wpAny_pure ⟨rfl, rfl, al'⟩
  · rintro ⟨r1, r2⟩ s' ⟨hr, rfl, _⟩
    obtain rfl : r1 = none := hr
    exact wpAny_pure h
theorem tup_keep {h h' : Heap} {ks : List K} {b : Addr} (x : IsTupleKey knd h ks b) (k : ∀ o, h.get? b = some o → h'.get? b = some o) : IsTupleKey knd h' ks b := by
  obtain ⟨o, items, n, ho, r⟩ := x
  exact ⟨o, items, n, k o ho, r⟩
theorem tup_ne {h : Heap} {ks : List K} {b : Addr} {o : Obj} {es : Array (Int × Value)} {ep : Nat} {t : SetTable} (x : IsTupleKey knd h ks b) (ho : h.get? a = some o) (hd : o.data = .set es ep t) : b ≠ a := by
  obtain ⟨o', items, n, ho', hc, hd', hi⟩ := x
  rintro rfl
  obtain rfl : o' = o := Option.some.inj (ho'.symm.trans ho)
  rw [hd] at hd'
  exact nomatch hd'

/-! ### the set's object, its table found again from the hashes -/
structure SetT (knd : KeyKind P w K) (h : Heap) (a : Addr) (L : List (KT K)) (es : Array (Int × Value)) (ep : Nat) (t : SetTable) : Prop where
  ob : ∃ o, h.get? a = some o ∧ o.ExactSet ∧ o.data = .set es ep t
  rows : es.toList = L.map (entT knd)
  tab : TabOk t (L.map (hT knd))
  nd : (L.map (·.2)).Nodup
  tup : ∀ p ∈ L, IsTupleKey knd h p.2 p.1
  led : w.params.followText "set-order" = true ∨ t.led = true
  room : L.length * 5 < t.mask * 3
  few : L.length < 64
variable {L : List (KT K)} {es : Array (Int × Value)} {ep : Nat} {t : SetTable}
theorem rows_size (h : es.toList = L.map (entT knd)) : es.size = L.length := by
  have e := congrArg List.length h
  rw [Array.length_toList, List.length_map] at e
  exact e
theorem rows_at (h : es.toList = L.map (entT knd)) {i : Nat} {p : KT K} (e : L[i]? = some p) : es[i]? = some (hT knd p, Value.ref p.1) := by
  rw [← Array.getElem?_toList, h, List.getElem?_map, e]
  rfl
theorem tab_fits {hs : List Int} (T : TabOk t hs) {n : Nat} (e : n = hs.length) (l : hs.length ≤ t.mask) : t.fits n = true := by
  have h1 := T.sz
  unfold SetTable.fits SetTable.fill
  rw [T.dm, Bool.and_eq_true, beq_iff_eq, decide_eq_true_eq]
  show t.place.size = n ∧ t.place.size + 0 ≤ t.mask
  omega
theorem SetT.size (R : SetT knd s.heap a L es ep t) : es.size = L.length := rows_size R.rows
theorem SetT.fits (R : SetT knd s.heap a L es ep t) : t.fits es.size = true := tab_fits R.tab (by rw [R.size, List.length_map]) (by have := R.room; rw [List.length_map]; omega)
theorem SetT.gw (R : SetT knd s.heap a L es ep t) : ¬ t.gaveWay = true := by
  unfold SetTable.gaveWay
  rw [mask_odd R.tab.mok]
  decide
abbrev prAt (m : Nat) (h : Int) (c : Nat) : SetTable.Probe := nth m (runAt m (SetTable.bits h % (m + 1)) (SetTable.bits h)) c
theorem prAt_add (m : Nat) (h : Int) (c q : Nat) : nth m (prAt m h c) q = prAt m h (c + q) := (nth_add m c _ q).symm
theorem prAt_dummy (m : Nat) (h : Int) (c : Nat) : (prAt m h c).dummy = none := by
  have key : ∀ (n : Nat) (p : SetTable.Probe), p.dummy = none → (nth m p n).dummy = none := by
    intro n
    induction n with
    | zero => exact fun p h => h
    | succ n ih =>
      intro p h
      refine ih (adv m p) ?_
      unfold adv
      split <;> exact h
  exact key c _ rfl
theorem searchT_from (R : SetT knd s.heap a L es ep t) {x : Addr} {k : List K} (hx : IsTupleKey knd s.heap k x) (hu : A.units < cLine) {N : Nat} (hf : N < 10 * SetTable.turns t.mask) (hN : way t.mask (tupleKeyHash knd k) N ∉ t.place.toList)
    (hb : ∀ c, c < N → way t.mask (tupleKeyHash knd k) c ∈ t.place.toList) {Q : SetFound → Shared → Prop} (hin : k ∈ L.map (·.2) → Q (.there none) s) (hout : k ∉ L.map (·.2) → Q (.free (way t.mask (tupleKeyHash knd k) N) false) s) :
    ∀ (f c : Nat) (stand : Option SetTable.Probe), stand.getD (t.probeStart (tupleKeyHash knd k)) = prAt t.mask (tupleKeyHash knd k) c → c ≤ N → N - c < f →
      (∀ (i : Nat) p, L[i]? = some p → p.2 = k → ∃ c', c ≤ c' ∧ c' < N ∧ t.place.toList[i]? = some (way t.mask (tupleKeyHash knd k) c')) → wpAny (model P w) A (setSearchFrom a (.ref x) (tupleKeyHash knd k) true f stand) Q E s
  | 0, c, stand, _, _, z, _ => absurd z (Nat.not_lt_zero _)
  | f + 1, c, stand, hst, hc, hcf, hre => by
    obtain ⟨o, ho, hex, hd⟩ := R.ob
    rw [setSearchFrom_succ]
    refine wpAny_bind (wpAny_setState_of ho hd R.fits ?_)
    dsimp only
    refine wp_if_neg R.gw ?_
    try refine wpAny_bind (wpAny_pure ?_)
    have wy : ∀ q, (nth t.mask (prAt t.mask (tupleKeyHash knd k) c) q).j = way t.mask (tupleKeyHash knd k) (c + q) := fun q => congrArg SetTable.Probe.j (prAt_add _ _ _ _)
    have hat : ∀ (i : Nat) p, L[i]? = some p → (fun i => (es[i]?.map (·.1)).getD 0) i = hT knd p := fun i p hp => by
      show (es[i]?.map (·.1)).getD 0 = _
      rw [rows_at R.rows hp]
      rfl
    rcases go_spec t R.tab.ris R.tab.dm (fun i => (es[i]?.map (·.1)).getD 0) (tupleKeyHash knd k) (10 * SetTable.turns t.mask) (N - c) _ (prAt_dummy t.mask (tupleKeyHash knd k) c) (by omega)
      (fun q hq => by rw [wy]; exact hb (c + q) (by omega)) (by rw [wy, show c + (N - c) = N by omega]; exact hN) with ⟨q, i, hq, hi, hh, hno, hpr⟩ | ⟨hno, hpr⟩
    · have met : t.probe (fun i => (es[i]?.map (·.1)).getD 0) (tupleKeyHash knd k) (stand.getD (t.probeStart (tupleKeyHash knd k))) = some (.candidate (way t.mask (tupleKeyHash knd k) (c + q)) i (prAt t.mask (tupleKeyHash knd k) (c + (q + 1)))) := by
        rw [hst, ← wy, ← prAt_add]
        exact hpr
      rw [met]
      dsimp only
      rw [wy] at hi
      have hil : i < L.length := by
        have h1 : i < t.place.toList.length := (List.getElem?_eq_some_iff.mp hi).1
        have h2 := R.tab.sz
        rw [List.length_map] at h2
        rw [Array.length_toList] at h1
        omega
      obtain ⟨p, hp⟩ : ∃ p, L[i]? = some p := ⟨_, List.getElem?_eq_getElem hil⟩
      have hm : p ∈ L := List.mem_of_getElem? hp
      have go : wpAny (model P w) A (searchRest a (.ref x) (tupleKeyHash knd k) true f es t (way t.mask (tupleKeyHash knd k) (c + q)) i (prAt t.mask (tupleKeyHash knd k) (c + (q + 1)))) Q E s := by
        unfold searchRest
        rw [rows_at R.rows hp]
        dsimp only
        refine wpAny_bind (wpAny_holding (wpAny_eqBool_tuple hu (R.tup p hm) hx ?_))
        refine wpAny_bind (wpAny_setState_of ho hd R.fits ?_)
        dsimp only
        by_cases e : p.2 = k
        · refine wp_if_pos (by simp [e]) ?_
          exact wpAny_pure (hin (List.mem_map.mpr ⟨p, hm, e⟩))
        · refine wp_if_neg (by simp [e]) ?_
          try refine wpAny_bind (wpAny_pure ?_)
          rw [sameMem]
          dsimp only
          have sl : t.slot (way t.mask (tupleKeyHash knd k) (c + q)) = .live i := slot_live R.tab.ris hi
          simp only [if_true, sl, rows_at R.rows hp]
          refine wpAny_bind (wpAny_isSame_ref_self (wpAny_bind (wpAny_pure ?_)))
          simp only [if_true]
          refine wp_if_neg (by simp [e]) ?_
          refine searchT_from R hx hu hf hN hb hin hout f (c + (q + 1)) _ rfl (by omega) (by omega) fun i0 p0 h0 k0 => ?_
          obtain ⟨c', a1, a2, a3⟩ := hre i0 p0 h0 k0
          refine ⟨c', ?_, a2, a3⟩
          rcases Nat.lt_trichotomy c' (c + q) with z | z | z
          · refine absurd ((hat i0 p0 h0).trans (congrArg (tupleKeyHash knd) k0)) (hno (c' - c) i0 (by omega) ?_)
            rw [wy, show c + (c' - c) = c' by omega]
            exact a3
          · rw [z] at a3
            have s0 := slot_live R.tab.ris a3
            rw [sl] at s0
            injection s0 with s0
            rw [← s0, hp] at h0
            exact absurd ((congrArg Prod.snd (Option.some.inj h0)).trans k0) e
          · omega
      by_cases hl : t.led = true
      · refine wp_if_neg (by simp [hl]) ?_
        try refine wpAny_bind (wpAny_pure ?_)
        exact go
      · refine wp_if_pos (by simp [hl]) ?_
        refine wpAny_bind (tup_seen hx (fun y hy => ?_) ?_)
        · obtain ⟨e, he, ee⟩ := List.mem_map.mp hy
          have h1 : e ∈ es ∧ e.1 = tupleKeyHash knd k := by simpa using he
          have h2 : e ∈ es.toList := by simpa using h1.1
          rw [R.rows] at h2
          obtain ⟨p2, hp2, e2⟩ := List.mem_map.mp h2
          refine ⟨p2.2, p2.1, ?_, R.tup p2 hp2⟩
          rw [← ee, ← e2]
          rfl
        · refine wp_if_neg (by decide) ?_
          try refine wpAny_bind (wpAny_pure ?_)
          exact go
    · have met : t.probe (fun i => (es[i]?.map (·.1)).getD 0) (tupleKeyHash knd k) (stand.getD (t.probeStart (tupleKeyHash knd k))) = some (.empty (way t.mask (tupleKeyHash knd k) N) none) := by
        have e2 : way t.mask (tupleKeyHash knd k) N = (nth t.mask (prAt t.mask (tupleKeyHash knd k) c) (N - c)).j := by
          rw [wy, show c + (N - c) = N by omega]
        rw [hst, e2]
        exact hpr
      rw [met]
      dsimp only
      refine wpAny_pure (hout fun hm => ?_)
      obtain ⟨p0, h0, k0⟩ := List.mem_map.mp hm
      obtain ⟨i0, hi0, e0⟩ := List.getElem_of_mem h0
      have h00 : L[i0]? = some p0 := by rw [List.getElem?_eq_getElem hi0, e0]
      obtain ⟨c', a1, a2, a3⟩ := hre i0 p0 h00 k0
      refine hno (c' - c) i0 (by omega) ?_ ((hat i0 p0 h00).trans (congrArg (tupleKeyHash knd) k0))
      rw [wy, show c + (c' - c) = c' by omega]
      exact a3
theorem searchT_at (R : SetT knd s.heap a L es ep t) {x : Addr} {k : List K} (hx : IsTupleKey knd s.heap k x) (hu : A.units < cLine) {Q : SetFound → Shared → Prop} (hin : k ∈ L.map (·.2) → Q (.there none) s)
    (hout : ∀ N, k ∉ L.map (·.2) → way t.mask (tupleKeyHash knd k) N ∉ t.place.toList → (∀ c, c < N → way t.mask (tupleKeyHash knd k) c ∈ t.place.toList) → Q (.free (way t.mask (tupleKeyHash knd k) N) false) s) :
    wpAny (model P w) A (setSearch a (.ref x) (tupleKeyHash knd k) true) Q E s := by
  have hroom := R.room
  obtain ⟨N, hf, hN, hb⟩ := R.tab.first (by rw [List.length_map]; omega) (tupleKeyHash knd k)
  have big : N < 100000 := by
    have : 10 * SetTable.turns t.mask ≤ 1420 := by
      unfold SetTable.turns
      rcases R.tab.mok with e | e | e <;> omega
    omega
  unfold setSearch
  refine searchT_from R hx hu hf hN hb hin (fun hn => hout N hn hN hb) 100000 0 none rfl (Nat.zero_le _) (by omega) fun i p hp hk => ?_
  have hi : (L.map (hT knd))[i]? = some (tupleKeyHash knd k) := by
    rw [List.getElem?_map, hp, ← hk]
    rfl
  have hil : i < t.place.toList.length := by
    have h1 : i < L.length := (List.getElem?_eq_some_iff.mp hp).1
    have h2 := R.tab.sz
    rw [List.length_map] at h2
    rw [Array.length_toList]
    omega
  have hj := List.getElem?_eq_getElem hil
  obtain ⟨c, hc, e⟩ := R.tab.before hN hi hj
  exact ⟨c, Nat.zero_le _, hc, by rw [hj, e]⟩
end
end J
namespace J
open PySem PySem.Spec PyProof.Rows L2
section
variable {P : Program} {w : World} {A : Around} {E : Value → Shared → Prop} {s : Shared} {K : Type} [DecidableEq K] {knd : KeyKind P w K} {a : Addr}
/-- rows picked by a rearrangement of their numbers -/
theorem rows_pick (L : List (KT K)) (es : Array (Int × Value)) (order : Array Nat) (hr : es.toList = L.map (entT knd)) (hp : order.toList.Perm (List.range L.length)) :
    ∃ M : List (KT K), (order.filterMap (es[·]?)).toList = M.map (entT knd) ∧ M.Perm L ∧ M.map (hT knd) = order.toList.map fun i => (es.map (·.1)).getD i 0 := by
  have hsz := rows_size hr
  have pick : ∀ l : List Nat, (∀ i ∈ l, i < L.length) → l.filterMap (fun i => es[i]?) = (l.filterMap fun i => L[i]?).map (entT knd) ∧ (l.filterMap fun i => L[i]?).map (hT knd) = l.map fun i => (es.map (·.1)).getD i 0 := by
    intro l
    induction l with
    | nil => exact fun _ => ⟨rfl, rfl⟩
    | cons i l ih =>
      intro hl
      have hi := hl i List.mem_cons_self
      obtain ⟨e1, e2⟩ := ih fun j hj => hl j (List.mem_cons_of_mem _ hj)
      have g := rows_at hr (List.getElem?_eq_getElem hi)
      have g2 : (es.map (·.1)).getD i 0 = hT knd L[i] := by
        have e5 : (es.map (·.1))[i]? = some (hT knd L[i]) := by
          rw [Array.getElem?_map, g]
          rfl
        simp [Array.getD_eq_getD_getElem?, e5]
      rw [List.filterMap_cons_some g, List.filterMap_cons_some (List.getElem?_eq_getElem hi), e1, List.map_cons, List.map_cons, List.map_cons, e2, g2]
      exact ⟨rfl, rfl⟩
  obtain ⟨e1, e2⟩ := pick order.toList fun i hi => List.mem_range.mp (hp.mem_iff.mp hi)
  refine ⟨_, by first | (rw [Array.toList_filterMap]; exact e1) | simpa using e1, ?_, e2⟩
  have h2 : (List.range L.length).filterMap (fun i => L[i]?) = L := by
    refine List.ext_getElem? fun j => ?_
    have all : ∀ n, n ≤ L.length → (List.range n).filterMap (fun i => L[i]?) = L.take n := by
      intro n
      induction n with
      | zero => exact fun _ => rfl
      | succ n ih =>
        intro hn
        rw [List.range_succ, List.filterMap_append, ih (Nat.le_of_succ_le hn), List.take_succ, List.getElem?_eq_getElem hn, List.filterMap_cons_some (List.getElem?_eq_getElem hn)]
        rfl
    rw [all _ (Nat.le_refl _), List.take_length]
  have h1 := hp.filterMap fun i => L[i]?
  rw [h2] at h1
  exact h1
variable {L : List (KT K)} {es : Array (Int × Value)} {ep : Nat} {t : SetTable}
theorem tup_other {h h' : Heap} {ks : List K} {b : Addr} {o : Obj} {es : Array (Int × Value)} {ep : Nat} {t : SetTable} (x : IsTupleKey knd h ks b) (ho : h.get? a = some o) (hd : o.data = .set es ep t) (sb : Heap.SameBut a h h') : IsTupleKey knd h' ks b :=
  tup_keep x fun u e => (sb.2 b (tup_ne x ho hd)).trans e
/-- the table laid anew -/
theorem relayT {o : Obj} (ho : s.heap.get? a = some o) (hex : o.ExactSet) (hd : o.data = .set es ep t) (hr : es.toList = L.map (entT knd)) (T : TabOk t (L.map (hT knd))) (le : L.length ≤ t.mask) (nd : (L.map (·.2)).Nodup) (tup : ∀ p ∈ L, IsTupleKey knd s.heap p.2 p.1)
    (ld : w.params.followText "set-order" = true ∨ t.led = true) (few : L.length < 64) {wanted M : Nat} (hw : SetTable.sizeAbove wanted - 1 = M) (hM : MaskOk M) (hw2 : SetTable.sizeAbove wanted ≤ 128) (hn : L.length * 5 < M * 3) {Q : Unit → Shared → Prop}
    (hQ : ∀ h' L' es' ep' t', Heap.SameBut a s.heap h' → SetT knd h' a L' es' ep' t' → L'.Perm L → Q () { s with heap := h' }) : wpAny (model P w) A (setRelay a wanted) Q E s := by
  have hsl := rows_size hr
  obtain ⟨t', order, e, hp, T', em, el, _, _⟩ := relaid_ok t (hs := es.map (·.1)) (wanted := wanted) hw hM (by rw [Array.size_map, hsl]; omega)
  rw [Array.size_map, hsl] at hp
  obtain ⟨M2, r1, r2, r3⟩ := rows_pick L es order hr hp
  rw [← r3] at T'
  have hs2 : (order.filterMap (es[·]?)).size = es.size := by rw [rows_size r1, r2.length_eq, hsl]
  rw [setRelay_eq]
  refine wpAny_bind (wpAny_setState_of ho hd (tab_fits T (by rw [hsl, List.length_map]) (by rw [List.length_map]; exact le)) ?_)
  dsimp only
  refine wp_if_neg (by rw [sizeLine_eq]; omega) ?_
  try refine wpAny_bind (wpAny_pure ?_)
  rw [e]
  dsimp only
  refine wpAny_bind ?_
  refine wp_if_neg (by rw [hs2]; simp) ?_
  try refine wpAny_bind (wpAny_pure ?_)
  refine wpAny_pure ?_
  dsimp only
  refine wpAny_storeSet_of ho hd ?_ (by rw [hs2, hsl, sizeLine_eq]; omega)
  have sb : Heap.SameBut a s.heap (s.heap.update a (Obj.putSet (order.filterMap (es[·]?)) t')) := Heap.SameBut.update ..
  exact hQ _ M2 (order.filterMap (es[·]?)) (ep + 1) t' sb ⟨⟨_, store_at ho hd, ⟨hex.1, hex.2.1, hex.2.2⟩, rfl⟩, r1, T', (r2.map (·.2)).nodup_iff.mpr nd, fun p hp => tup_other (tup p (r2.mem_iff.mp hp)) ho hd sb, by rw [el]; exact ld, by rw [r2.length_eq, em]; exact hn, by rw [r2.length_eq]; exact few⟩ r2
/-- a tuple is added -/
theorem addT (sc : Scans knd) (R : SetT knd s.heap a L es ep t) {x : Addr} {k : List K} (hx : IsTupleKey knd s.heap k x) (hu : A.units < cLine) (hfew : k ∉ L.map (·.2) → L.length + 1 < 64) {Q : Bool → Shared → Prop}
    (hQ : ∀ b h' L' es' ep' t', Heap.SameBut a s.heap h' → SetT knd h' a L' es' ep' t' → L'.Perm (if k ∈ L.map (·.2) then L else (x, k) :: L) → Q b { s with heap := h' }) : wpAny (model P w) A (setAddHashed a (.ref x) (tupleKeyHash knd k)) Q E s := by
  obtain ⟨o, ho, hex, hd⟩ := R.ob
  have hsl := R.size
  have hroom := R.room
  unfold setAddHashed
  refine wpAny_holding ?_
  rw [show (100000 : Nat) = 99999 + 1 from rfl, setAddHashedIn_succ]
  refine wpAny_bind (wpAny_setState_of ho hd R.fits ?_)
  dsimp only
  refine wp_if_neg (by simp [byScan, Value.scannable]) ?_
  try refine wpAny_bind (wpAny_pure ?_)
  refine wpAny_bind (searchT_at R hx hu (fun hm => ?_) fun N hm hN hb => ?_)
  · dsimp only
    exact wpAny_pure (hQ false s.heap L es ep t (Heap.SameBut.refl a s.heap) R (by rw [if_pos hm]))
  · rw [if_neg hm] at hQ
    have hfew := hfew hm
    dsimp only
    refine wpAny_bind (wpAny_setState_of ho hd R.fits ?_)
    dsimp only
    obtain ⟨q1, q2, q3, q4, q5, q6, q7, q8, q9⟩ := R.tab.put hN hb
    generalize hpt : t.put (way t.mask (tupleKeyHash knd k) N) = pt at q1 q3 q4 q5 q6 q7 q8 q9 ⊢
    obtain ⟨t1, p⟩ := pt
    dsimp only at q1 q3 q4 q5 q6 q7 q8 q9 ⊢
    subst q1
    -- by value or not, the table is the same but for a flag
    have fin : ∀ t2 : SetTable, TabOk t2 ((L.map (hT knd)).take (SetTable.below t.place (way t.mask (tupleKeyHash knd k) N)) ++ tupleKeyHash knd k :: (L.map (hT knd)).drop (SetTable.below t.place (way t.mask (tupleKeyHash knd k) N))) → t2.mask = t.mask → t2.led = t.led →
        t2.fill = (L.map (hT knd)).length + 1 → wpAny (model P w) A (do
          storeSet a (SetTable.insertAt es (SetTable.below t.place (way t.mask (tupleKeyHash knd k) N)) (tupleKeyHash knd k, Value.ref x)) t2
          if (!false && t2.tooFull) = true then do
              setRelay a (SetTable.grown (es.size + 1))
              pure true
            else pure true) Q E s := by
      intro t2 T2 em el ef
      have hin : (SetTable.insertAt es (SetTable.below t.place (way t.mask (tupleKeyHash knd k) N)) (tupleKeyHash knd k, Value.ref x)).toList =
          (L.take (SetTable.below t.place (way t.mask (tupleKeyHash knd k) N)) ++ (x, k) :: L.drop (SetTable.below t.place (way t.mask (tupleKeyHash knd k) N))).map (entT knd) := by
        rw [SetTable.toList_insertAt, R.rows, List.map_append, List.map_cons, List.map_take, List.map_drop]
        rfl
      generalize SetTable.below t.place (way t.mask (tupleKeyHash knd k) N) = p at q2 T2 hin ⊢
      have pm := put_perm L p (x, k)
      have hhs : (L.take p ++ (x, k) :: L.drop p).map (hT knd) = (L.map (hT knd)).take p ++ tupleKeyHash knd k :: (L.map (hT knd)).drop p := by
        rw [List.map_append, List.map_cons, List.map_take, List.map_drop]
      rw [← hhs] at T2
      have nd1 : ((L.take p ++ (x, k) :: L.drop p).map (·.2)).Nodup := by
        refine (pm.map (·.2)).nodup_iff.mpr ?_
        rw [List.map_cons]
        exact List.nodup_cons.mpr ⟨hm, R.nd⟩
      generalize SetTable.insertAt es p (tupleKeyHash knd k, Value.ref x) = es1 at hin ⊢
      generalize L.take p ++ (x, k) :: L.drop p = L1 at pm T2 nd1 hin
      have hlen : L1.length = L.length + 1 := pm.length_eq
      have hes : es1.size = L.length + 1 := by rw [rows_size hin, hlen]
      refine wpAny_bind (wpAny_storeSet_of ho hd ?_ (by rw [hes, sizeLine_eq]; omega))
      have sb : Heap.SameBut a s.heap (s.heap.update a (Obj.putSet es1 t2)) := Heap.SameBut.update ..
      have ho1 := store_at (es' := es1) (t' := t2) ho hd
      generalize s.heap.update a (Obj.putSet es1 t2) = h1 at sb ho1 ⊢
      have tup1 : ∀ p ∈ L1, IsTupleKey knd h1 p.2 p.1 := fun p hp => by
        rcases List.mem_cons.mp (pm.mem_iff.mp hp) with e | hp
        · rw [e]
          exact tup_other hx ho hd sb
        · exact tup_other (R.tup p hp) ho hd sb
      have ld1 : w.params.followText "set-order" = true ∨ t2.led = true := by rw [el]; exact R.led
      by_cases hf : t2.tooFull = true
      · refine wp_if_pos (by simp [hf]) (wpAny_bind ?_)
        have full : (L.length + 1) * 5 ≥ t2.mask * 3 := by
          have h := hf
          unfold SetTable.tooFull at h
          rw [decide_eq_true_eq, ef, List.length_map] at h
          exact h
        rw [hsl]
        have two : (t.mask = 7 ∧ L.length = 4) ∨ (t.mask = 31 ∧ L.length = 18) := by
          rcases R.tab.mok with e | e | e
          · left
            rw [em, e] at full
            rw [e] at hroom
            exact ⟨e, by omega⟩
          · right
            rw [em, e] at full
            rw [e] at hroom
            exact ⟨e, by omega⟩
          · exfalso
            rw [em, e] at full
            omega
        have go : ∀ M, SetTable.sizeAbove (SetTable.grown (L.length + 1)) - 1 = M → MaskOk M → SetTable.sizeAbove (SetTable.grown (L.length + 1)) ≤ 128 → (L.length + 1) * 5 < M * 3 →
            wpAny (model P w) A (setRelay a (SetTable.grown (L.length + 1))) (fun _ s' => wpAny (model P w) A (pure true) Q E s') E { s with heap := h1 } := fun M h1' h2' h3' h4' => by
          refine relayT (s := { s with heap := h1 }) ho1 ⟨hex.1, hex.2.1, hex.2.2⟩ rfl hin T2 (by rw [hlen, em]; rcases two with ⟨e, e2⟩ | ⟨e, e2⟩ <;> omega) nd1 tup1 ld1 (by rw [hlen]; exact hfew) h1' h2' h3' (by rw [hlen]; exact h4') ?_
          intro h2 L2 es2 ep2 t2 sb2 R2 pm2
          exact wpAny_pure (hQ true h2 L2 es2 ep2 t2 (sb.trans sb2) R2 (pm2.trans pm))
        rcases two with ⟨_, e2⟩ | ⟨_, e2⟩
        · exact go 31 (by rw [e2, size_20]) (.inr (.inl rfl)) (by rw [e2, size_20]; decide) (by omega)
        · exact go 127 (by rw [e2, size_76]) (.inr (.inr rfl)) (by rw [e2, size_76]; decide) (by omega)
      · refine wp_if_neg (by simp [hf]) ?_
        refine wpAny_pure (hQ true h1 L1 es1 (ep + 1) t2 sb ⟨⟨_, ho1, ⟨hex.1, hex.2.1, hex.2.2⟩, rfl⟩, hin, T2, nd1, tup1, ld1, ?_, by rw [hlen]; exact hfew⟩ pm)
        have h := hf
        unfold SetTable.tooFull at h
        rw [decide_eq_true_eq, ef, List.length_map] at h
        rw [hlen]
        omega
    have T0 := q3
    by_cases pl : t1.plain = true
    · first
        | (refine wpAny_bind ?_; refine wp_if_pos pl ?_; refine tup_byV sc hx fun r => ?_)
        | refine wp_if_pos pl (wpAny_bind (tup_byV sc hx fun r => ?_))
      cases r with
      | true =>
        simp only [if_true]
        exact fin t1 T0 q4 q5 q9
      | false =>
        simp only [Bool.false_eq_true, if_false]
        exact fin { t1 with plain := false } ⟨T0.ris, T0.dm, T0.sz, T0.mok, T0.bd, T0.reach⟩ q4 q5 q9
    · first
        | (refine wpAny_bind ?_; refine wp_if_neg pl ?_; refine wpAny_pure ?_)
        | refine wp_if_neg pl (wpAny_bind (wpAny_pure ?_))
      simp only [if_true]
      exact fin t1 T0 q4 q5 q9
end
end J
/-! set(..) and sorted(..) as rules of the layer. -/
namespace J
section
open PySem PySem.Spec PyProof.Rows L2
variable {P : Program} {w : World} {A : Around} {E : Value → Shared → Prop} {s : Shared} {K : Type} [DecidableEq K] {knd : KeyKind P w K} {a : Addr} {L : List (KT K)} {es : Array (Int × Value)} {ep : Nat} {t : SetTable}
theorem SetT.setG (R : SetT knd s.heap a L es ep t) : SetG w s.heap a (L.map (entT knd)) := by
  obtain ⟨o, ho, hex, hd⟩ := R.ob
  have := R.size
  have := R.few
  exact ⟨o, es, ep, t, ho, hex, hd, by rw [R.rows], by unfold scanBound; omega, R.fits, R.tab.ris, R.led⟩
theorem setT_new {h : Heap} (e : h.get? a = some (newSet w)) : SetT knd h a [] #[] 0 (.fresh 0 0 (!w.params.followText "set-order")) where
  ob := ⟨_, e, ⟨rfl, rfl, rfl⟩, rfl⟩
  rows := rfl
  tab := ⟨List.Pairwise.nil, rfl, rfl, .inl rfl, fun x hx => (by cases hx), fun i h j hi => (by simp at hi)⟩
  nd := List.nodup_nil
  tup := fun p hp => (by cases hp)
  led := by
    show _ ∨ (!w.params.followText "set-order") = true
    cases w.params.followText "set-order"
    · exact .inr rfl
    · exact .inl rfl
  room := by
    show 0 * 5 < 7 * 3
    decide
  few := by
    show 0 < 64
    decide
/-- never sixty-four different ones -/
def Few {α : Type} (ks : List α) : Prop := ∀ M : List α, M.Nodup → (∀ k ∈ M, k ∈ ks) → M.length < 64
theorem call_setT {l : Addr} {items : Array Value} (sc : Scans knd) (ks : List (KT K)) {Q : Value → Shared → Prop} (hh : A.handled = none) (hu : A.units + 3 < cLine) (hl : IsSq s.heap l items) (hi : items.toList = ks.map fun p => Value.ref p.1) (hk : ∀ p ∈ ks, IsTupleKey knd s.heap p.2 p.1)
    (hf : Few (ks.map (·.2))) (hQ : ∀ h' tk (L : List (KT K)), SetG w h' s.heap.objs.size (L.map (entT knd)) → (∀ p ∈ L, p ∈ ks) → (∀ p ∈ ks, p.2 ∈ L.map (·.2)) → (L.map (·.2)).Nodup → (∀ b o, s.heap.get? b = some o → h'.get? b = some o) → Q (.ref s.heap.objs.size) { s with heap := h', toks := tk }) :
    wpAny (model P w) A (call (.type "set") [.ref l]) Q E s := by
  have hsz : items.size = ks.length := by
    have e := congrArg List.length hi
    rw [Array.length_toList, List.length_map] at e
    exact e
  refine call_setG (Inv := fun i h => ∃ L es ep t, SetT knd h s.heap.objs.size L es ep t ∧ (∀ p ∈ L, p ∈ ks.take i) ∧ ∀ p ∈ ks.take i, p.2 ∈ L.map (·.2)) hh hl ⟨fun i h h' ⟨L, es, ep, t, R, g1, g2⟩ k1 k2 => ?_, fun i v s1 Q1 E1 hi1 hv k0 ⟨L, es, ep, t, R, g1, g2⟩ q => ?_⟩
    (fun h e _ => ⟨[], #[], 0, _, setT_new e, (fun p z => nomatch z), fun p z => by simp at z⟩) fun h' tk ⟨L, es, ep, t, R, g1, g2⟩ k => ?_
  · obtain ⟨o, ho, r⟩ := R.ob
    exact ⟨L, es, ep, t, ⟨⟨o, k1 o ho, r⟩, R.rows, R.tab, R.nd, fun p hp => tup_keep (hk p (List.mem_of_mem_take (g1 p hp))) fun o e => k2 _ _ e, R.led, R.room, R.few⟩, g1, g2⟩
  · obtain ⟨p, hp, rfl⟩ : ∃ p, ks[i]? = some p ∧ Value.ref p.1 = v := by
      have e : items.toList[i]? = some v := by rw [Array.getElem?_toList]; exact hv
      rw [hi, List.getElem?_map] at e
      cases z : ks[i]? with
      | none => rw [z] at e; cases e
      | some p =>
        rw [z] at e
        exact ⟨p, rfl, Option.some.inj e⟩
    have hm := List.mem_of_getElem? hp
    have hx : IsTupleKey knd s1.heap p.2 p.1 := tup_keep (hk p hm) fun o e => k0 _ _ e
    have e : ks.take (i + 1) = ks.take i ++ [p] := by
      rw [List.take_add_one, hp]
      rfl
    unfold setAdd
    refine wpAny_holding ?_
    refine wpAny_bind (wpAny_pyHash_tuple (by show A.units + 1 + 1 + 1 < _; omega) hx ?_)
    refine addT (s := { s1 with toks := s1.toks + (p.2.length + 1) }) sc R hx (by show A.units + 1 + 1 + 1 < _; omega) (fun hn => ?_) fun b h' L' es' ep' t' sb R' pm => q b _ h' (Nat.le_add_right _ _) sb ⟨L', es', ep', t', R', ?_⟩
    · refine hf (p.2 :: L.map (·.2)) (List.nodup_cons.mpr ⟨hn, R.nd⟩) (fun k hk => ?_) |> (fun z => by rw [List.length_cons, List.length_map] at z; exact z)
      rcases List.mem_cons.mp hk with e | hk
      · rw [e]
        exact List.mem_map.mpr ⟨p, hm, rfl⟩
      · obtain ⟨q, hq, rfl⟩ := List.mem_map.mp hk
        exact List.mem_map.mpr ⟨q, List.mem_of_mem_take (g1 q hq), rfl⟩
    · rw [e]
      by_cases c : p.2 ∈ L.map (·.2)
      · rw [if_pos c] at pm
        refine ⟨fun x hx => List.mem_append_left _ (g1 x (pm.mem_iff.mp hx)), fun x hx => ?_⟩
        refine (pm.map (·.2)).mem_iff.mpr ?_
        rcases List.mem_append.mp hx with z | z
        · exact g2 x z
        · rw [List.mem_singleton.mp z]
          exact c
      · rw [if_neg c] at pm
        refine ⟨fun x hx => ?_, fun x hx => ?_⟩
        · rcases List.mem_cons.mp (pm.mem_iff.mp hx) with z | z
          · rw [z]
            exact List.mem_append_right _ (List.mem_singleton.mpr (Prod.ext rfl rfl))
          · exact List.mem_append_left _ (g1 x z)
        · refine (pm.map (·.2)).mem_iff.mpr ?_
          rw [List.map_cons]
          rcases List.mem_append.mp hx with z | z
          · exact List.mem_cons_of_mem _ (g2 x z)
          · rw [List.mem_singleton.mp z]
            exact List.mem_cons_self
  · rw [hsz, List.take_length] at g1 g2
    exact hQ h' tk L (SetT.setG (s := { s with heap := h' }) R) g1 g2 R.nd k
end

/-! ### in the layer -/
open PySem PySem.Spec L2
def setO (w : World) (a : Addr) (xs : List V) : HO := .ext fun h => ∃ R, SetG w h a R ∧ Vals xs (R.map (·.2))
theorem setO_ok {P : Program} {w : World} {H : Hp} {h : Heap} {a : Addr} {xs : List V} {R : List (Int × Value)} (G : SetG w h a R) (v : Vals xs (R.map (·.2))) : ObjOk P w H h a (setO w a xs) := by
  obtain ⟨o, es, ep, t, ho, r⟩ := G.ex
  exact ⟨⟨R, G, v⟩, ⟨o, ho⟩, fun h1 h2 ⟨R', G', v'⟩ k => ⟨R', G'.at k, v'⟩⟩
/-- what may be put into a set -/
def Kd (ds : List PyData) : Prop := (∃ ks : List Str, ds = ks.map .str) ∨ (∃ ks : List Int, ds = ks.map .int) ∨ ∃ kss : List (List Str), ds = kss.map (fun ks => .tuple (ks.map .str)) ∧ Few kss
def rSetG (K : PySem.W.Frag) (w : World) : List V → Hp → VK → Prop := fun vs H Q => ∃ (B : Hp) (a : Addr) (xs : List V) (ds : List PyData), vs = [.ref a] ∧ Same B H ∧ (SqL K H a xs ∨ SqT K H a xs) ∧ DdAll B xs ds ∧ Kd ds ∧ ds.length < 4000 ∧
  ∀ p ys es, H p = none → DdAll B ys es → es.Nodup → (∀ d, d ∈ es ↔ d ∈ ds) → Q (.ref p) (upd H p (setO w p ys))
section
variable {X : Cx}
theorem scans_str {P : Program} {w : World} : Scans (PySem.strKind P w) := fun k v h => by
  obtain ⟨t, rfl⟩ := Value.isStrOf_shape h
  rfl
theorem Inv.sq {pins : List (Addr × Obj)} {σ : L2.St} {H : Hp} {s : Shared} {a : Addr} {xs : List V} (I : L2.Inv X pins σ H s) (h : SqL X.K H a xs ∨ SqT X.K H a xs) : ∃ its : List Value, Vals xs its ∧ IsSq s.heap a its.toArray := by
  rcases h with h | h
  · obtain ⟨its, rv, pl, _⟩ := I.list h
    exact ⟨its, rv, .inl pl.isList⟩
  · obtain ⟨its, rv, pl, _⟩ := I.tuple h
    exact ⟨its, rv, .inr pl⟩
theorem vals_strs : ∀ {ks : List Str} {us : List Value}, Vals (ks.map V.str) us → ∃ L : List (Value × Str), us = L.map (·.1) ∧ ks = L.map (·.2) ∧ ∀ p ∈ L, ∃ t, p.1 = .str p.2 t
  | [], _, .nil => ⟨[], rfl, rfl, fun p z => nomatch z⟩
  | k :: ks, _, .cons ⟨t, e⟩ r => by
    obtain ⟨L, h1, h2, h3⟩ := vals_strs r
    refine ⟨(_, k) :: L, by rw [h1]; rfl, by rw [h2]; rfl, fun p hp => ?_⟩
    rcases List.mem_cons.mp hp with z | z
    · rw [z]
      exact ⟨t, e⟩
    · exact h3 p z
theorem vals_ints : ∀ {ks : List Int} {us : List Value}, Vals (ks.map V.int) us → ∃ L : List (Value × Int), us = L.map (·.1) ∧ ks = L.map (·.2) ∧ ∀ p ∈ L, ∃ t, p.1 = .int p.2 t
  | [], _, .nil => ⟨[], rfl, rfl, fun p z => nomatch z⟩
  | k :: ks, _, .cons ⟨t, e⟩ r => by
    obtain ⟨L, h1, h2, h3⟩ := vals_ints r
    refine ⟨(_, k) :: L, by rw [h1]; rfl, by rw [h2]; rfl, fun p hp => ?_⟩
    rcases List.mem_cons.mp hp with z | z
    · rw [z]
      exact ⟨t, e⟩
    · exact h3 p z
theorem vals_map {α : Type} (f : α → V) (g : α → Value) : ∀ (L : List α), (∀ p ∈ L, RelV (f p) (g p)) → Vals (L.map f) (L.map g)
  | [], _ => .nil
  | p :: L, h => .cons (h p List.mem_cons_self) (vals_map f g L fun q hq => h q (List.mem_cons_of_mem _ hq))
theorem ddAll_map {B : Hp} {α : Type} (f : α → V) (g : α → PyData) : ∀ (L : List α), (∀ p ∈ L, Dd B (f p) (g p)) → DdAll B (L.map f) (L.map g)
  | [], _ => .nil
  | p :: L, h => .cons (h p List.mem_cons_self) (ddAll_map f g L fun q hq => h q (List.mem_cons_of_mem _ hq))
theorem nodup_map {α β : Type} {f : α → β} (hf : ∀ x y, f x = f y → x = y) {l : List α} (h : l.Nodup) : (l.map f).Nodup := List.pairwise_map.mpr (h.imp fun n e => n (hf _ _ e))
/-- tuples of texts, their addresses -/
theorem tups_of {B : Hp} : ∀ {xs : List V} {kss : List (List Str)}, DdAll B xs (kss.map fun ks => .tuple (ks.map .str)) → ∃ ps : List (KT Str), xs = ps.map (fun p => V.ref p.1) ∧ kss = ps.map (·.2) ∧ ∀ p ∈ ps, B p.1 = some (.tup (p.2.map V.str)) ∧ p.2.length ≤ sizeLine
  | [], [], _ => ⟨[], rfl, rfl, fun p z => nomatch z⟩
  | [], _ :: _, h => by cases h
  | _ :: _, [], h => by cases h
  | x :: xs, ks :: kss, h => by
    cases h with
    | cons r t =>
      obtain ⟨ps, h1, h2, h3⟩ := tups_of t
      obtain ⟨a, ys, rfl, e2, hl, e3⟩ := Dd.tup_eq r
      refine ⟨(a, ks) :: ps, by rw [h1]; rfl, by rw [h2]; rfl, fun p hp => ?_⟩
      rcases List.mem_cons.mp hp with z | z
      · rw [z]
        refine ⟨?_, by rw [List.length_map] at hl; exact hl⟩
        rw [← strs_of e3]
        exact e2
      · exact h3 p z
theorem refs_of_valsG {α : Type} {f : α → Addr} : ∀ {ks : List α} {us : List Value}, Vals (ks.map fun p => V.ref (f p)) us → us = ks.map fun p => Value.ref (f p)
  | [], _, .nil => rfl
  | p :: ks, _, .cons r t => by
    rw [refs_of_valsG t, show _ = Value.ref (f p) from r]
    rfl
theorem itemsAre_map {P : Program} {w : World} {K : Type} [DecidableEq K] {knd : KeyKind P w K} : ∀ (L : List (Value × K)), (∀ q ∈ L, knd.is q.2 q.1 = true) → ItemsAre knd (L.map (·.2)) (L.map (·.1))
  | [], _ => .nil
  | q :: L, h => .cons (h q List.mem_cons_self) (itemsAre_map L fun x hx => h x (List.mem_cons_of_mem _ hx))
theorem mapStr_inj : ∀ {x y : List Str}, x.map PyData.str = y.map PyData.str → x = y
  | [], [], _ => rfl
  | [], _ :: _, h => by cases h
  | _ :: _, [], h => by cases h
  | a :: x, b :: y, h => by
    rw [List.map_cons, List.map_cons] at h
    injection h with h1 h2
    injection h1 with h1
    rw [h1, mapStr_inj h2]
theorem cr_setG (hc : X.calm = true) (hu : X.A.units + 64 < cLine) : CallR X (.type "set") (rSetG X.K X.w) := by
  intro pins s σ H vs us Q I r h
  obtain ⟨B, a, xs, ds, rfl, sB, sq, dd, kd, hlen, q⟩ := h
  rw [Vals.ref1 r]
  obtain ⟨its, rv, hl⟩ := Inv.sq I sq
  have hn : H s.heap.objs.size = none := I.hok.fresh (Nat.le_refl _)
  have it : its.toArray.toList = its := by simp
  rcases kd with ⟨ks, rfl⟩ | ⟨ks, rfl⟩ | ⟨kss, rfl, few⟩
  · rw [strs_of dd] at rv
    obtain ⟨L, rfl, rfl, hL⟩ := vals_strs rv
    have F := firsts_ok L
    refine call_setS (knd := PySem.strKind X.prog X.w) L (I.ok.hd hc) hl it (fun p hp => ?_) (by rw [List.length_map, List.length_map] at hlen; unfold scanBound; omega) fun h' tk G k => ?_
    · obtain ⟨t, e⟩ := hL p hp
      rw [e]
      exact ⟨strKind_is _ _ _ _, rfl⟩
    · refine ⟨.ref s.heap.objs.size, upd H s.heap.objs.size (setO X.w s.heap.objs.size ((firsts L).map fun p => V.str p.2)), I.laid (t' := tk) k (Nat.le_refl _) (setO_ok G ?_), rfl, q _ _ ((firsts L).map fun p => PyData.str p.2) hn (ddAll_map _ _ _ fun p _ => .str _) ?_ fun d => ?_⟩
      · rw [List.map_map]
        exact vals_map _ _ _ fun p hp => hL p (F.1 p hp)
      · have e : ((firsts L).map fun p => PyData.str p.2) = ((firsts L).map (·.2)).map PyData.str := by rw [List.map_map]; rfl
        rw [e]
        exact nodup_map (fun x y e => PyData.str.inj e) F.2.2.1
      · simp only [List.mem_map]
        constructor
        · rintro ⟨p, hp, rfl⟩
          exact ⟨_, ⟨p, F.1 p hp, rfl⟩, rfl⟩
        · rintro ⟨_, ⟨p, hp, rfl⟩, rfl⟩
          obtain ⟨p', hp', e⟩ := List.mem_map.mp (F.2.1 p hp)
          exact ⟨p', hp', by rw [e]⟩
  · rw [ints_of dd] at rv
    obtain ⟨L, rfl, rfl, hL⟩ := vals_ints rv
    have F := firsts_ok L
    refine call_setS (knd := PySem.intKind X.prog X.w) L (I.ok.hd hc) hl it (fun p hp => ?_) (by rw [List.length_map, List.length_map] at hlen; unfold scanBound; omega) fun h' tk G k => ?_
    · obtain ⟨t, e⟩ := hL p hp
      rw [e]
      exact ⟨intKind_is _ _ _ _, rfl⟩
    · refine ⟨.ref s.heap.objs.size, upd H s.heap.objs.size (setO X.w s.heap.objs.size ((firsts L).map fun p => V.int p.2)), I.laid (t' := tk) k (Nat.le_refl _) (setO_ok G ?_), rfl, q _ _ ((firsts L).map fun p => PyData.int p.2) hn (ddAll_map _ _ _ fun p _ => .int _) ?_ fun d => ?_⟩
      · rw [List.map_map]
        exact vals_map _ _ _ fun p hp => hL p (F.1 p hp)
      · have e : ((firsts L).map fun p => PyData.int p.2) = ((firsts L).map (·.2)).map PyData.int := by rw [List.map_map]; rfl
        rw [e]
        exact nodup_map (fun x y e => PyData.int.inj e) F.2.2.1
      · simp only [List.mem_map]
        constructor
        · rintro ⟨p, hp, rfl⟩
          exact ⟨_, ⟨p, F.1 p hp, rfl⟩, rfl⟩
        · rintro ⟨_, ⟨p, hp, rfl⟩, rfl⟩
          obtain ⟨p', hp', e⟩ := List.mem_map.mp (F.2.1 p hp)
          exact ⟨p', hp', by rw [e]⟩
  · obtain ⟨ps, rfl, rfl, hp⟩ := tups_of dd
    have eus : its = ps.map fun p => Value.ref p.1 := refs_of_valsG rv
    refine call_setT (knd := PySem.strKind X.prog X.w) scans_str ps (I.ok.hd hc) (by omega) hl (by rw [it, eus]) (fun p hm => ?_) few fun h' tk L G g1 g2 nd k => ?_
    · obtain ⟨its2, r2, pl, _⟩ := I.tuple (SqT.of (K := X.K) (sB _ _ (hp p hm).1))
      obtain ⟨o, ho, hc, n, hd⟩ := pl
      obtain ⟨L2, e1, e2, e3⟩ := vals_strs r2
      refine ⟨o, _, n, ho, hc, hd, ?_⟩
      have e4 : (its2.toArray).toList = L2.map (·.1) := by rw [← e1]
      rw [e4, e2]
      exact itemsAre_map L2 fun q hq => by
        obtain ⟨t, e⟩ := e3 q hq
        rw [e]
        exact strKind_is _ _ _ _
    · refine ⟨.ref s.heap.objs.size, upd H s.heap.objs.size (setO X.w s.heap.objs.size (L.map fun p => V.ref p.1)), I.laid (t' := tk) k (Nat.le_refl _) (setO_ok G ?_), rfl, q _ _ (L.map fun p => PyData.tuple (p.2.map .str)) hn (ddAll_map _ _ _ fun p hm => ?_) ?_ fun d => ?_⟩
      · rw [List.map_map]
        exact vals_map _ _ _ fun p _ => rfl
      · obtain ⟨e1, e2⟩ := hp p (g1 p hm)
        exact .tup e1 (by rw [List.length_map]; exact e2) (ddAll_map _ _ _ fun _ _ => .str _)
      · have e : (L.map fun p => PyData.tuple (p.2.map .str)) = (L.map (·.2)).map fun ks => PyData.tuple (ks.map .str) := by rw [List.map_map]; rfl
        rw [e]
        exact nodup_map (fun x y e => mapStr_inj (PyData.tuple.inj e)) nd
      · simp only [List.mem_map]
        constructor
        · rintro ⟨p, hm, rfl⟩
          exact ⟨_, ⟨p, g1 p hm, rfl⟩, rfl⟩
        · rintro ⟨_, ⟨p, hm, rfl⟩, rfl⟩
          obtain ⟨p', hp', e⟩ := List.mem_map.mp (g2 p hm)
          exact ⟨p', hp', by rw [e]⟩
end
end J
/-! sorted(..) and set_of's words as rules of the layer. -/
namespace J
open PySem PySem.Spec L2
open PySem.W (EachIs)
/-! ### one sorted list -/
mutual
theorem cmp_anti : ∀ x y : PyData, cmpb x y = true → ltD x y = false → ltD y x = false → x = y
  | .int a, .int b, _, h1, h2 => by
    simp only [ltD, decide_eq_false_iff_not] at h1 h2
    rw [show a = b by omega]
  | .str a, .str b, _, h1, h2 => by
    simp only [ltD, decide_eq_false_iff_not] at h1 h2
    have e := natL_eq h1 h2
    cases a
    cases b
    simp only at e
    rw [Array.toList_inj] at e
    rw [e]
  | .tuple xs, .tuple ys, h, h1, h2 => by
    simp only [cmpb] at h
    simp only [ltD] at h1 h2
    rw [cmpAll_anti xs ys h h1 h2]
  | .none, _, h, _, _ => by simp [cmpb] at h
  | .bool _, _, h, _, _ => by simp [cmpb] at h
  | .list _, _, h, _, _ => by simp [cmpb] at h
  | .dict _, _, h, _, _ => by simp [cmpb] at h
  | .int _, .none, h, _, _ | .int _, .bool _, h, _, _ | .int _, .str _, h, _, _ | .int _, .list _, h, _, _ | .int _, .tuple _, h, _, _ | .int _, .dict _, h, _, _ => by simp [cmpb] at h
  | .str _, .none, h, _, _ | .str _, .bool _, h, _, _ | .str _, .int _, h, _, _ | .str _, .list _, h, _, _ | .str _, .tuple _, h, _, _ | .str _, .dict _, h, _, _ => by simp [cmpb] at h
  | .tuple _, .none, h, _, _ | .tuple _, .bool _, h, _, _ | .tuple _, .int _, h, _, _ | .tuple _, .list _, h, _, _ | .tuple _, .str _, h, _, _ | .tuple _, .dict _, h, _, _ => by simp [cmpb] at h
theorem cmpAll_anti : ∀ xs ys : List PyData, cmpbAll xs ys = true → ltAll xs ys = false → ltAll ys xs = false → xs = ys
  | [], [], _, _, _ => rfl
  | [], _ :: _, _, h, _ => by simp [ltAll] at h
  | _ :: _, [], _, _, h => by simp [ltAll] at h
  | x :: xs, y :: ys, h, h1, h2 => by
    simp only [cmpbAll, Bool.and_eq_true] at h
    simp only [ltAll] at h1 h2
    have a1 : ltD x y = false := by
      cases q : ltD x y with
      | false => rfl
      | true => rw [q] at h1; simp at h1
    rw [a1] at h1 h2
    have a2 : ltD y x = false := by
      cases q : ltD y x with
      | false => rfl
      | true => rw [q] at h2; simp at h2
    rw [a2] at h1 h2
    rw [cmp_anti x y h.1 a1 a2, cmpAll_anti xs ys h.2 h1 h2]
end
abbrev LeP (x y : PyData) : Prop := ltD y x = false
theorem sorted_one : ∀ {l m : List PyData}, (∀ d ∈ l, ∀ e ∈ l, cmpb d e = true) → l.Pairwise LeP → m.Pairwise LeP → l.Perm m → l = m
  | [], m, _, _, _, p => p.symm.eq_nil.symm
  | x :: l, [], _, _, _, p => absurd p.length_eq (by simp)
  | x :: l, y :: m, c, hl, hm, p => by
    have e : x = y := by
      rcases List.mem_cons.mp (p.mem_iff.mp (List.mem_cons_self (a := x) (l := l))) with z | z
      · exact z
      · rcases List.mem_cons.mp (p.mem_iff.mpr (List.mem_cons_self (a := y) (l := m))) with u | u
        · exact u.symm
        · exact cmp_anti x y (c x List.mem_cons_self y (List.mem_cons_of_mem _ u)) ((List.pairwise_cons.mp hm).1 x z) ((List.pairwise_cons.mp hl).1 y u)
    subst e
    rw [sorted_one (fun d hd e he => c d (List.mem_cons_of_mem _ hd) e (List.mem_cons_of_mem _ he)) (List.pairwise_cons.mp hl).2 (List.pairwise_cons.mp hm).2 p.cons_inv]
/-! ### the rule -/
def rSortG (K : PySem.W.Frag) (w : World) : List V → Hp → VK → Prop := fun vs H Q => ∃ (B : Hp) (a : Addr) (xs : List V) (ds out : List PyData), vs = [.ref a] ∧ Same B H ∧ ((SqL K H a xs ∨ SqT K H a xs) ∨ H a = some (setO w a xs)) ∧ DdAll B xs ds ∧ SrtOk ds ∧ ds.length ≤ sizeLine ∧
  out.Perm ds ∧ out.Pairwise LeP ∧ ∀ p ys, H p = none → DdAll B ys out → Q (.ref p) (upd H p (.lst ys))
theorem each_vals : ∀ {xs : List V} {us : List Value} {ds : List PyData} {B : Hp}, Vals xs us → DdAll B xs ds → EachIs (fun v (b : V × PyData) => RelV b.1 v ∧ Dd B b.1 b.2) us (xs.zip ds)
  | [], _, _, _, .nil, .nil => .nil
  | _ :: _, _, _, _, .cons r t, .cons r' t' => .cons ⟨r, r'⟩ (each_vals t t')
theorem each_perm {α β : Type} {R : α → β → Prop} {as as' : List α} (p : as'.Perm as) : ∀ {bs : List β}, EachIs R as bs → ∃ bs', bs'.Perm bs ∧ EachIs R as' bs' := by
  induction p with
  | nil => exact fun h => ⟨_, List.Perm.refl _, h⟩
  | cons x _ ih =>
    intro bs h
    cases h with
    | cons r t =>
      obtain ⟨bs', q, e⟩ := ih t
      exact ⟨_ :: bs', q.cons _, .cons r e⟩
  | swap x y l =>
    intro bs h
    cases h with
    | cons r t =>
      cases t with
      | cons r' t => exact ⟨_, List.Perm.swap _ _ _, .cons r' (.cons r t)⟩
  | trans _ _ ih1 ih2 =>
    intro bs h
    obtain ⟨b1, q1, e1⟩ := ih2 h
    obtain ⟨b2, q2, e2⟩ := ih1 e1
    exact ⟨b2, q2.trans q1, e2⟩
theorem each_out : ∀ {us : List Value} {bs : List (V × PyData)} {B : Hp}, EachIs (fun v (b : V × PyData) => RelV b.1 v ∧ Dd B b.1 b.2) us bs → Vals (bs.map (·.1)) us ∧ DdAll B (bs.map (·.1)) (bs.map (·.2))
  | _, _, _, .nil => ⟨.nil, .nil⟩
  | _, _, _, .cons r t => ⟨.cons r.1 (each_out t).1, .cons r.2 (each_out t).2⟩
section
variable {X : Cx}
theorem cr_sortG (hc : X.calm = true) (hu : X.A.units + 68 < cLine) : CallR X (.builtin "sorted") (rSortG X.K X.w) := by
  intro pins s σ H vs us Q I r h
  obtain ⟨B, a, xs, ds, out, rfl, sB, src, dd, so, hlen, pm, pw, q⟩ := h
  rw [Vals.ref1 r]
  have perm2 : ∀ bs : List (V × PyData), bs.Perm (xs.zip ds) → (bs.map (·.2)).Perm ds := fun bs p => by
    have e := p.map (·.2)
    rw [List.map_snd_zip (by rw [dd.len]; exact Nat.le_refl _)] at e
    exact e
  refine sorted_coll (β := V × PyData) (R := fun v b => RelV b.1 v ∧ Dd B b.1 b.2) (enc := (·.2)) (fun bs => bs.Perm (xs.zip ds)) (fun Q' E' k => ?_) (fun v b ⟨r1, r2⟩ => ?_) (fun bs p => ?_) (fun bs p d hd e he => ?_) (fun bs p => ?_) (fun bs p b hb => ?_) fun bs s' p o c g k hp g1 o1 hg e => ?_
  · rcases src with sq | hs
    · obtain ⟨its, rv, hl⟩ := Inv.sq I sq
      have hsz : its.toArray.size ≤ sizeLine := by
        rw [List.size_toArray, ← rv.length, dd.len]
        exact hlen
      have go : ∀ (T : String) (ob : Obj) (n : Nat), T = "list" ∨ T = "tuple" → s.heap.get? a = some ob → ob.cls = .type T → ob.data = .seq its.toArray n → wpAny (model X.prog X.w) X.A.in1 (collect (.ref a)) Q' E' s := fun T ob n hT ho hcl hd =>
        PySem.wpAny_collect_seq a hT ho hcl hd (fun h' kp => k _ (xs.zip ds) _ kp rfl rfl (List.Perm.refl _) (by simpa using each_vals rv dd)) hsz
      rcases hl with ⟨ob, ho, hcl, n, hd⟩ | ⟨ob, ho, hcl, n, hd⟩
      · exact go "list" ob n (.inl rfl) ho hcl hd
      · exact go "tuple" ob n (.inr rfl) ho hcl hd
    · obtain ⟨⟨R, G, v⟩, _⟩ := I.hok a _ hs
      obtain ⟨ob, es, ep, t, ho, hex, hd, hpm, hb, hf, hr, hl⟩ := G.ex
      refine collect_set (A := X.A.in1) (I.ok.hd hc) ⟨ob, ho, hex.1, hd⟩ hf hb hr hl fun s1 vs k1 z1 g1 o1 pm1 => ?_
      obtain ⟨bs, p2, e2⟩ := each_perm (pm1.trans (hpm.map (·.2))) (each_vals v dd)
      exact k vs bs s1 k1 g1 o1 p2 e2
  · exact Dp.reads I b.2 b.1 v (Dd.dp sB _ _ r2) r1
  · rw [p.length_eq, List.length_zip, dd.len, Nat.min_self]
    exact hlen
  · exact cmp_alike _ _ (so.cmp d ((perm2 bs p).mem_iff.mp hd) e ((perm2 bs p).mem_iff.mp he))
  · refine so.kind.imp (fun z d hd => z d ((perm2 bs p).mem_iff.mp hd)) fun z d hd => z d ((perm2 bs p).mem_iff.mp hd)
  · have sh := so.shp b.2 ((perm2 bs p).mem_iff.mp (List.mem_map.mpr ⟨b, hb, rfl⟩))
    have := SeqAt.depth_of_shaped sh
    omega
  · obtain ⟨rv, dd'⟩ := each_out e
    have pm' : ((bs.mergeSort (PySem.W.dataLe false (·.2))).map (·.2)).Perm ds := ((List.mergeSort_perm bs _).map fun b : V × PyData => b.2).trans (perm2 bs g)
    have pw' : ((bs.mergeSort (PySem.W.dataLe false (·.2))).map (·.2)).Pairwise LeP := by
      refine List.pairwise_map.mpr ((PySem.W.sort_pairwise (PySem.W.sortLe_total _ false _) bs).imp_of_mem fun {x y} hx hy le => ?_)
      have mx : x.2 ∈ ds := (perm2 bs g).mem_iff.mp (List.mem_map.mpr ⟨x, (List.mergeSort_perm _ _).mem_iff.mp hx, rfl⟩)
      have my : y.2 ∈ ds := (perm2 bs g).mem_iff.mp (List.mem_map.mpr ⟨y, (List.mergeSort_perm _ _).mem_iff.mp hy, rfl⟩)
      have le' : (!PySem.W.dataLt y.2 x.2) = true := le
      rw [dataLt_ltD _ _ (so.cmp _ my _ mx)] at le'
      simpa using le'
    have eo := sorted_one (fun d hd e he => so.cmp d (pm'.mem_iff.mp hd) e (pm'.mem_iff.mp he)) pw' pw (pm'.trans pm.symm)
    rw [eo] at dd'
    have hn : H p = none := I.hok.gone hp
    have lenY : ((bs.mergeSort (PySem.W.dataLe false (·.2))).map (·.1)).length ≤ sizeLine := by
      rw [dd'.len, pm.length_eq]
      exact hlen
    have J : L2.Inv X pins σ (upd H p (.lst ((bs.mergeSort (PySem.W.dataLe false (·.2))).map (·.1)))) { s with heap := s'.heap, gens := s'.gens, drawn := s'.drawn, toks := s'.toks } :=
      I.call (ch := []) (Un.laidN k hp hn) (I.hok.laidN k hn ⟨lenY, o.toList, c, rv, by simpa using hg⟩) (by rw [g1]; exact I.bare) (fun _ z => nomatch z)
    have es : s' = { s with heap := s'.heap, gens := s'.gens, drawn := s'.drawn, toks := s'.toks } := by
      cases s'
      cases s
      cases o1
      rfl
    rw [es]
    exact ⟨.ref p, _, J, rfl, q p _ hn dd'⟩
end
end J
/-! Own things of any kind as values; several assigned at once; set and sorted. -/
namespace J
open PySem PySem.Spec L2

/-! ### set, sorted -/
section
variable {X : Cx} {δ δ1 : DSt} {A : AV} {e : Expr} {pos p : Pos} {ds out : List PyData}
/-- a set of these -/
def aSet (w : World) (ds : List PyData) : AV := ⟨fun B v => ∃ a xs es, v = .ref a ∧ B a = some (setO w a xs) ∧ DdAll B xs es ∧ es.Nodup ∧ ∀ d, d ∈ es ↔ d ∈ ds, fun s ⟨a, xs, es, h1, h2, h3, h4, h5⟩ => ⟨a, xs, es, h1, s _ _ h2, DdAll.mono s _ _ h3, h4, h5⟩⟩
theorem je_set {d : PyData} {j : Nat} (hd : d = .list ds ∨ d = .tuple ds) (kd : Kd ds) (hl : ds.length < 4000) (hm : X.mg "set" = none) (hc : X.calm = true) (hr : Room j X.A) (h : JE X e δ δ1 (aD d)) (hg : Gl X "set" := by rfl) (he : starEach [e] X.env = (false, eval e X.env) :: starEach [] X.env := by rfl) :
    JE X (.Call (.Name "set" p) [e] [] pos) δ δ1 (aSet X.w ds) :=
  je_Ty (cr_setG hc hr.units) PyProof.Rows.boot_set hm (fun B H vs Q s aa q => by
    obtain ⟨v, rfl, hv⟩ := all2_one aa
    obtain ⟨a, xs, rfl, hx, dx⟩ : ∃ a xs, v = .ref a ∧ (SqL X.K H a xs ∨ SqT X.K H a xs) ∧ DdAll B xs ds := by
      rcases hd with e | e
      · subst e
        obtain ⟨a, xs, e1, e2, _, e3⟩ := Dd.lst_eq hv
        exact ⟨a, xs, e1, .inl (SqL.of (s _ _ e2)), e3⟩
      · subst e
        obtain ⟨a, xs, e1, e2, _, e3⟩ := Dd.tup_eq hv
        exact ⟨a, xs, e1, .inr (SqT.of (s _ _ e2)), e3⟩
    exact ⟨B, a, xs, ds, rfl, s, hx, dx, kd, hl, fun p ys es hp dy nd mm => q _ _ _ (.one hp) ⟨p, ys, es, rfl, upd_same, DdAll.mono (same_upd (s.free hp)) _ _ dy, nd, mm⟩⟩) (ja_cons h ja_nil he) hg (by decide) (by decide) he rfl
theorem je_sorted {d : PyData} {j : Nat} (out : List PyData) (hd : d = .list ds ∨ d = .tuple ds) (so : SrtOk ds) (pm : out.Perm ds) (pw : out.Pairwise LeP) (hm : X.mg "sorted" = none) (hc : X.calm = true) (hr : Room j X.A) (hu : X.A.units + 68 < cLine) (h : JE X e δ δ1 (aD d)) (hg : Gl X "sorted" := by rfl)
    (he : starEach [e] X.env = (false, eval e X.env) :: starEach [] X.env := by rfl) : JE X (.Call (.Name "sorted" p) [e] [] pos) δ δ1 (aD (.list out)) :=
  je_B (cr_sortG hc hu) PyProof.Rows.boot_sorted hm (fun B H vs Q s aa q => by
    obtain ⟨v, rfl, hv⟩ := all2_one aa
    obtain ⟨a, xs, rfl, hx, hl, dx⟩ : ∃ a xs, v = .ref a ∧ (SqL X.K H a xs ∨ SqT X.K H a xs) ∧ ds.length ≤ sizeLine ∧ DdAll B xs ds := by
      rcases hd with e | e
      · subst e
        obtain ⟨a, xs, e1, e2, hl, e3⟩ := Dd.lst_eq hv
        exact ⟨a, xs, e1, .inl (SqL.of (s _ _ e2)), hl, e3⟩
      · subst e
        obtain ⟨a, xs, e1, e2, hl, e3⟩ := Dd.tup_eq hv
        exact ⟨a, xs, e1, .inr (SqT.of (s _ _ e2)), hl, e3⟩
    exact ⟨B, a, xs, ds, out, rfl, s, .inl hx, dx, so, hl, pm, pw, fun p ys hp dy => q _ _ _ (.one hp) (.lst upd_same (by rw [pm.length_eq]; exact hl) (DdAll.mono (same_upd (s.free hp)) _ _ dy))⟩) (ja_cons h ja_nil he) hg (by decide) (by decide) he rfl
theorem je_sortedSet {j : Nat} (out : List PyData) (so : SrtOk ds) (hl : ds.length < 4000) (nd : out.Nodup) (mm : ∀ d, d ∈ out ↔ d ∈ ds) (pw : out.Pairwise LeP) (hm : X.mg "sorted" = none) (hc : X.calm = true) (hr : Room j X.A) (hu : X.A.units + 68 < cLine) (h : JE X e δ δ1 (aSet X.w ds)) (hg : Gl X "sorted" := by rfl)
    (he : starEach [e] X.env = (false, eval e X.env) :: starEach [] X.env := by rfl) : JE X (.Call (.Name "sorted" p) [e] [] pos) δ δ1 (aD (.list out)) :=
  je_B (cr_sortG hc hu) PyProof.Rows.boot_sorted hm (fun B H vs Q s aa q => by
    obtain ⟨v, rfl, hv⟩ := all2_one aa
    obtain ⟨a, xs, es, rfl, h2, dx, nd2, mm2⟩ := hv
    have pm : out.Perm es := (List.perm_ext_iff_of_nodup nd nd2).mpr fun d => (mm d).trans (mm2 d).symm
    have len : es.length ≤ ds.length := (List.Nodup.length_le_of_subset nd2 fun d hd => (mm2 d).mp hd)
    have hz : es.length ≤ sizeLine := by rw [sizeLine_eq]; omega
    exact ⟨B, a, xs, es, out, rfl, s, .inr (s _ _ h2), dx, ⟨fun d hd e he => so.cmp d ((mm2 d).mp hd) e ((mm2 e).mp he), so.kind.imp (fun z d hd => z d ((mm2 d).mp hd)) (fun z d hd => z d ((mm2 d).mp hd)), fun d hd => so.shp d ((mm2 d).mp hd)⟩, hz, pm, pw,
      fun p ys hp dy => q _ _ _ (.one hp) (.lst upd_same (by rw [pm.length_eq]; exact hz) (DdAll.mono (same_upd (s.free hp)) _ _ dy))⟩) (ja_cons h ja_nil he) hg (by decide) (by decide) he rfl
end

/-! ### own things -/
def Grab (F F' : Hp) (R : List Addr) : Prop := (∀ a, a ∉ R → F' a = F a) ∧ ∀ a ∈ R, F a = none ∧ ∃ o, F' a = some o
theorem Grab.none {F : Hp} : Grab F F [] := ⟨fun _ _ => rfl, fun a h => nomatch h⟩
theorem Grab.one {F : Hp} {p : Addr} {o : HO} (h : F p = .none) : Grab F (upd F p o) [p] := ⟨fun a n => upd_ne fun e => n (by rw [e]; exact List.mem_singleton.mpr rfl), fun a m => by
  rw [List.mem_singleton.mp m]
  exact ⟨h, o, upd_same⟩⟩
theorem Grab.sub {F F' : Hp} {R : List Addr} (g : Grab F F' R) : ∀ a o, F a = some o → F' a = some o := fun a o e => by
  rw [g.1 a fun m => by rw [(g.2 a m).1] at e; cases e]
  exact e
/-- what is grabbed goes into a slot -/
theorem Env.take {F F' B H : Hp} {σ : L2.St} {δ : DSt} {R : List Addr} {v : V} {c : Cell} (E : Env F' B H σ δ) (g : Grab F F' R) (k : cellOk B H v R c) (i : Nat) : Env F B H (σ.set i (some v)) (δ.set i (some c)) := by
  obtain ⟨Rg, e⟩ := E
  have hR : ∀ j a, a ∈ Rg j → a ∉ R := fun j a h z => by
    obtain ⟨o, q⟩ := (g.2 a z).2
    rw [(e.rg j a h).2.2] at q
    cases q
  refine ⟨fun j => if j = i then R else Rg j, ⟨e.bh, fun a x h => e.fr a x (g.sub a x h), by rw [List.length_set, List.length_set]; exact e.len, fun j d hj => ?_, fun j a h => ?_, fun j l a h1 h2 => ?_, fun a xs z => e.ft a xs (g.sub a _ z), fun j a xs h => by
    have h' : a ∈ (if j = i then R else Rg j) := h
    by_cases q : j = i
    · rw [if_pos q] at h'
      obtain ⟨_, o, h2⟩ := g.2 a h'
      rw [(e.fr a o h2).1, ← h2]
      exact e.ft a xs
    · rw [if_neg q] at h'
      exact e.rt j a xs h'⟩⟩
  · by_cases q : i = j
    · subst q
      have hl : i < δ.length := by
        by_cases z : i < δ.length
        · exact z
        · rw [List.getElem?_eq_none (by rw [List.length_set]; omega)] at hj
          cases hj
      rw [List.getElem?_set_self hl] at hj
      cases hj
      refine ⟨v, by rw [List.getElem?_set_self (by rw [e.len]; exact hl)], ?_⟩
      rw [if_pos rfl]
      exact k
    · rw [List.getElem?_set_ne q] at hj
      obtain ⟨u, h1, h2⟩ := e.sl j d hj
      refine ⟨u, by rw [List.getElem?_set_ne q]; exact h1, ?_⟩
      rw [if_neg (Ne.symm q)]
      exact h2
  · by_cases q : j = i
    · rw [if_pos q] at h
      obtain ⟨h1, o, h2⟩ := g.2 a h
      obtain ⟨k1, k2⟩ := e.fr a o h2
      exact ⟨k2, (by rw [k1]; exact fun z => by cases z), h1⟩
    · rw [if_neg q] at h
      obtain ⟨q1, q2, q3⟩ := e.rg j a h
      refine ⟨q1, q2, ?_⟩
      rw [← g.1 a (hR j a h)]
      exact q3
  · have h1' : a ∈ (if j = i then R else Rg j) := h1
    have h2' : a ∈ (if l = i then R else Rg l) := h2
    by_cases q : j = i
    · by_cases z : l = i
      · rw [q, z]
      · rw [if_pos q] at h1'
        rw [if_neg z] at h2'
        exact absurd h1' (hR l a h2')
    · by_cases z : l = i
      · rw [if_neg q] at h1'
        rw [if_pos z] at h2'
        exact absurd h2' (hR j a h1')
      · rw [if_neg q] at h1'
        rw [if_neg z] at h2'
        exact e.dj j l a h1' h2'
/-- an object in slot i's region is changed -/
theorem Env.wr {F B H : Hp} {σ : L2.St} {δ : DSt} {i : Nat} {M : MV} (E : Env F B H σ δ) (h : δ[i]? = some (some (.mut M))) : ∃ v R, σ[i]? = some (some v) ∧ M.p B H v R ∧ (∀ a ∈ R, B a = none ∧ F a = none ∧ H a ≠ none) ∧
    ∀ b o M', b ∈ R → NotT o → M'.p B (upd H b o) v R → Env F B (upd H b o) σ (δ.set i (some (.mut M'))) := by
  obtain ⟨Rg, e⟩ := E
  obtain ⟨v, h1, h2⟩ := e.sl i _ h
  refine ⟨v, Rg i, h1, h2, fun a ha => let ⟨q1, q2, q3⟩ := e.rg i a ha; ⟨q1, q3, q2⟩, fun b o M' hb nt hM => ?_⟩
  obtain ⟨r1, r2, r3⟩ := e.rg i b hb
  refine ⟨Rg, ⟨fun a x ha => ?_, fun a x ha => ?_, by rw [List.length_set]; exact e.len, fun j c hj => ?_, fun j a ha => ?_, e.dj, e.ft, fun j a xs ha => by
    by_cases q : a = b
    · rw [q, upd_same]
      exact fun z => nt xs (Option.some.inj z)
    · rw [upd_ne q]
      exact e.rt j a xs ha⟩⟩
  · rw [upd_ne (ne_of_none ha r1)]
    exact e.bh a x ha
  · rw [upd_ne (ne_of_none ha r3)]
    exact e.fr a x ha
  · by_cases q : i = j
    · subst q
      have hi : i < δ.length := (List.getElem?_eq_some_iff.mp h).1
      rw [List.getElem?_set_self hi] at hj
      cases hj
      exact ⟨v, h1, hM⟩
    · rw [List.getElem?_set_ne q] at hj
      obtain ⟨u, k1, k2⟩ := e.sl j c hj
      refine ⟨u, k1, k2.mono (Same.refl B) fun a ha => ?_⟩
      rw [upd_ne fun z => q (e.dj i j b hb (by rw [← z]; exact ha))]
  · obtain ⟨q1, q2, q3⟩ := e.rg j a ha
    refine ⟨q1, ?_, q3⟩
    by_cases q : a = b
    · rw [q, upd_same]
      exact fun z => nomatch z
    · rw [upd_ne q]
      exact q2
/-- slot i's region becomes data -/
theorem Env.frz {F B H : Hp} {σ : L2.St} {δ : DSt} {i : Nat} {M : MV} {A : AV} (E : Env F B H σ δ) (h : δ[i]? = some (some (.mut M))) (k : ∀ B' v R, Same B B' → (∀ a ∈ R, B' a = H a) → M.p B H v R → A.p B' v) : ∃ B', Env F B' H σ (δ.set i (some (.val A))) ∧ Same B B' := by
  obtain ⟨Rg, e⟩ := E
  obtain ⟨v, h1, h2⟩ := e.sl i _ h
  let B' : Hp := fun a => if a ∈ Rg i then H a else B a
  have hin : ∀ a, a ∈ Rg i → B' a = H a := fun a m => if_pos m
  have hout : ∀ a, a ∉ Rg i → B' a = B a := fun a m => if_neg m
  have sB : Same B B' := fun a x q => by
    by_cases m : a ∈ Rg i
    · rw [(e.rg i a m).1] at q
      cases q
    · rw [hout a m]
      exact q
  refine ⟨B', ⟨fun j => if j = i then [] else Rg j, ⟨fun a x q => ?_, fun a x q => ?_, by rw [List.length_set]; exact e.len, fun j c hj => ?_, fun j a hb => ?_, fun j l a h1 h2 => ?_, e.ft, fun j b xs hb => by
    have hb' : b ∈ (if j = i then [] else Rg j) := hb
    by_cases q : j = i
    · rw [if_pos q] at hb'
      cases hb'
    · rw [if_neg q] at hb'
      exact e.rt j b xs hb'⟩⟩, sB⟩
  · by_cases m : a ∈ Rg i
    · rw [hin a m] at q
      exact q
    · rw [hout a m] at q
      exact e.bh a x q
  · have m : a ∉ Rg i := fun m => by rw [(e.rg i a m).2.2] at q; cases q
    rw [hout a m]
    exact e.fr a x q
  · by_cases q : i = j
    · subst q
      have hi : i < δ.length := (List.getElem?_eq_some_iff.mp h).1
      rw [List.getElem?_set_self hi] at hj
      cases hj
      exact ⟨v, h1, k B' v (Rg i) sB hin h2⟩
    · rw [List.getElem?_set_ne q] at hj
      obtain ⟨u, k1, k2⟩ := e.sl j c hj
      refine ⟨u, k1, ?_⟩
      rw [if_neg (Ne.symm q)]
      exact k2.mono sB fun b hb => rfl
  · by_cases q : j = i
    · rw [if_pos q] at hb
      exact absurd hb (by simp)
    · rw [if_neg q] at hb
      obtain ⟨q1, q2, q3⟩ := e.rg j a hb
      refine ⟨?_, q2, q3⟩
      rw [hout a fun z => q (e.dj j i a hb z)]
      exact q1
  · have h1' : a ∈ (if j = i then [] else Rg j) := h1
    have h2' : a ∈ (if l = i then [] else Rg l) := h2
    by_cases q : j = i
    · rw [if_pos q] at h1'
      exact absurd h1' (by simp)
    · by_cases z : l = i
      · rw [if_pos z] at h2'
        exact absurd h2' (by simp)
      · rw [if_neg q] at h1'
        rw [if_neg z] at h2'
        exact e.dj j l a h1' h2'
inductive Chain (B H : Hp) : Hp → Hp → List V → List Cell → Prop
  | nil {F : Hp} : Chain B H F F [] []
  | cons {F F1 F2 : Hp} {R : List Addr} {v : V} {vs : List V} {c : Cell} {cs : List Cell} : Grab F F1 R → cellOk B H v R c → Chain B H F1 F2 vs cs → Chain B H F F2 (v :: vs) (c :: cs)
theorem Chain.sub {B H F F' : Hp} {vs : List V} {cs : List Cell} (h : Chain B H F F' vs cs) : ∀ a o, F a = some o → F' a = some o := by
  induction h with
  | nil => exact fun a o e => e
  | cons g _ _ ih => exact fun a o e => ih a o (g.sub a o e)
theorem Chain.mono {B H F F' B' H' : Hp} {vs : List V} {cs : List Cell} (h : Chain B H F F' vs cs) (s : Same B B') (k : ∀ a o, F' a = some o → H' a = H a) : Chain B' H' F F' vs cs := by
  induction h with
  | nil => exact .nil
  | cons g c t ih => exact .cons g (c.mono s fun a ha => let ⟨_, o, e⟩ := g.2 a ha; k a o (t.sub a o e)) (ih k)
theorem Chain.len {B H F F' : Hp} {vs : List V} {cs : List Cell} (h : Chain B H F F' vs cs) : vs.length = cs.length := by
  induction h with
  | nil => rfl
  | cons _ _ _ ih => rw [List.length_cons, List.length_cons, ih]
def setAll {α : Type} (σ : List (Option α)) : List Nat → List α → List (Option α)
  | i :: is, v :: vs => setAll (σ.set i (some v)) is vs
  | _, _ => σ
theorem setAll_set {α : Type} {i : Nat} {v : α} : ∀ {is : List Nat} {vs : List α} {σ : List (Option α)}, i ∉ is → setAll (σ.set i (some v)) is vs = (setAll σ is vs).set i (some v)
  | [], _, _, _ => by simp [setAll]
  | _ :: _, [], _, _ => by simp [setAll]
  | j :: is, u :: vs, σ, h => by
    show setAll ((σ.set i (some v)).set j (some u)) is vs = (setAll (σ.set j (some u)) is vs).set i (some v)
    rw [List.set_comm _ _ (fun e => h (by rw [e]; exact List.mem_cons_self))]
    exact setAll_set fun m => h (List.mem_cons_of_mem _ m)
theorem Env.takes {F F' B H : Hp} {σ : L2.St} {δ : DSt} {vs : List V} {cs : List Cell} (h : Chain B H F F' vs cs) (E : Env F' B H σ δ) : ∀ is : List Nat, is.Nodup → is.length = vs.length → Env F B H (setAll σ is vs) (setAll δ is cs) := by
  induction h with
  | nil =>
    intro is _ l
    rw [List.length_eq_zero_iff.mp l]
    exact E
  | cons g c t ih =>
    intro is nd l
    cases is with
    | nil => cases l
    | cons i is =>
      obtain ⟨n1, n2⟩ := List.nodup_cons.mp nd
      show Env _ _ _ (setAll (σ.set i _) is _) (setAll (δ.set i _) is _)
      rw [setAll_set n1, setAll_set n1]
      exact (ih E is n2 (Nat.succ.inj l)).take g c i

/-! ### as judgements -/
def tX (δ δ' : DSt) (c : Cell) : TE := fun σ H Q => ∃ F B, Env F B H σ δ ∧ ∀ v R F' B' H', Grab F F' R → Env F' B' H' σ δ' → Same B B' → cellOk B' H' v R c → Q v H'
def tXs (δ δ' : DSt) (cs : List Cell) : TA := fun σ H Q => ∃ F B, Env F B H σ δ ∧ ∀ vs F' B' H', Chain B' H' F F' vs cs → Env F' B' H' σ δ' → Same B B' → Q vs H'
def JX (X : Cx) (e : Expr) (δ δ' : DSt) (c : Cell) : Prop := PE X e (tX δ δ' c)
def JXs (X : Cx) (es : List Expr) (δ δ' : DSt) (cs : List Cell) : Prop := PA X es (tXs δ δ' cs)
section
variable {X : Cx} {δ δ1 δ2 : DSt} {A : AV} {a b e : Expr} {es : List Expr} {pos p : Pos} {ds : List PyData} {c : Cell} {cs : List Cell} {O : Out} {sts : List Stmt}
theorem jx_of (h : JE X e δ δ1 A) : JX X e δ δ1 (.val A) := PE.imp h fun σ H Q ⟨F, B, E, q⟩ => ⟨F, B, E, fun v B1 H1 E1 s1 a1 => q v [] F B1 H1 .none E1 s1 a1⟩
theorem jx_lst (h : JN X e δ δ1 (isL ds)) : JX X e δ δ1 (.mut (mL ds)) := PE.imp h fun σ H Q ⟨F, B, E, q⟩ => ⟨F, B, E, fun p o B1 H1 f E1 s1 ⟨vs, eo, dv, hl⟩ => by
  subst eo
  exact q (.ref p) [p] _ B1 H1 (.one f) E1 s1 ⟨p, vs, rfl, rfl, (E1.fr p _ upd_same).1, dv, hl⟩⟩
theorem jxs_nil : JXs X [] δ δ [] := PA.imp pa_nil fun σ H Q ⟨F, B, E, k⟩ => k [] F B H .nil E (Same.refl _)
theorem jxs_cons (h1 : JX X e δ δ1 c) (h2 : JXs X es δ1 δ2 cs) (hs : starEach (e :: es) X.env = (false, eval e X.env) :: starEach es X.env := by rfl) : JXs X (e :: es) δ δ2 (c :: cs) :=
  PA.imp (pa_cons h1 h2 hs) fun σ H Q ⟨F, B, E, k⟩ => ⟨F, B, E, fun v R F1 B1 H1 g E1 s1 c1 => ⟨F1, B1, E1, fun vs F2 B2 H2 ch E2 s2 => k (v :: vs) F2 B2 H2 (.cons g (c1.mono s2 fun x hx => by
    obtain ⟨_, o, ho⟩ := g.2 x hx
    rw [(E1.fr x o ho).1, (E2.fr x o (ch.sub x o ho)).1]) ch) E2 (s1.trans s2)⟩⟩
theorem js_setX {x : Str} {pos' : Pos} (i : Nat) (he : JX X e δ δ1 c) (k : O.nx (δ1.set i (some c))) (hN : X.N.Nodup) (hi : X.N[i]? = some x := by rfl) (hx : Loc X.env.scope x := by first | exact Or.inl rfl | exact Or.inr rfl) (hs : swapsWith e (some (.Name x pos')) pos.line X.env = pure false := by rfl)
    (hf : X.fn x = true ∨ X.env.scope.names.lookup x = some .local := by first | exact .inl rfl | exact .inr rfl | assumption) : JS X (.Assign [.Name x pos'] e pos) δ O :=
  PS.imp (ps_set hN hi hx he hs hf) fun D σ H ⟨F, B, E, n, _, _, _⟩ => ⟨F, B, E, fun v R F1 B1 H1 g E1 s1 c1 => n _ _ B1 H1 k (E1.take g c1 i) s1⟩
theorem jb_setX {x : Str} {pos' : Pos} (i : Nat) (hN : X.N.Nodup) (he : JX X e δ δ1 c) (k : JB X sts (δ1.set i (some c)) O) (hi : X.N[i]? = some x := by rfl) (hx : Loc X.env.scope x := by first | exact Or.inl rfl | exact Or.inr rfl) (hs : swapsWith e (some (.Name x pos')) pos.line X.env = pure false := by rfl)
    (hf : X.fn x = true ∨ X.env.scope.names.lookup x = some .local := by first | exact .inl rfl | exact .inr rfl | assumption) : JB X (.Assign [.Name x pos'] e pos :: sts) δ O := jb_then (js_setX i he rfl hN hi hx hs hf) k
/-- x, y = a, b: plain locals -/
theorem jb_parX {x y : Str} {c1 c2 : Cell} {px py pt pt2 : Pos} {kt k2 : Nat} (i j : Nat) (hc : X.calm = true) (hN : X.N.Nodup) (ha : JXs X [a, b] δ δ1 [c1, c2]) (k : JB X sts ((δ1.set i (some c1)).set j (some c2)) O) (hi : X.N[i]? = some x := by rfl) (hj : X.N[j]? = some y := by rfl) (hij : i ≠ j := by decide)
    (hx : X.env.scope.names.lookup x = some .local := by rfl) (hy : X.env.scope.names.lookup y = some .local := by rfl) (hw : swappedStores [.Tuple [.Name x px, .Name y py] kt pt] (.Tuple [a, b] k2 pt2) X.env = pure (some [x, y]) := by rfl)
    (hs : swapsWithSole [.Tuple [.Name x px, .Name y py] kt pt] (.Tuple [a, b] k2 pt2) pos.line X.env = pure false := by rfl) : JB X (.Assign [.Tuple [.Name x px, .Name y py] kt pt] (.Tuple [a, b] k2 pt2) pos :: sts) δ O :=
  jb_then (δ1 := (δ1.set i (some c1)).set j (some c2)) (PS.imp (ps_par hc hN hi hj hij hx hy ha hw hs) fun D σ H ⟨F, B, E, n, _, _, _⟩ => ⟨F, B, E, fun vs F1 B1 H1 ch E1 s1 => by
    have E2 := Env.takes ch E1 [i, j] (by simp [hij])
    cases ch with
    | cons g1 k1 t =>
      cases t with
      | cons g2 k2 t =>
        cases t
        exact ⟨_, _, rfl, n _ _ B1 H1 rfl (E2 rfl) s1⟩⟩) k
theorem jb_par3X {x y z : Str} {d : Expr} {c1 c2 c3 : Cell} {px py pz pt pt2 : Pos} {kt k2 : Nat} (i j l : Nat) (hc : X.calm = true) (hN : X.N.Nodup) (ha : JXs X [a, b, d] δ δ1 [c1, c2, c3]) (k : JB X sts (((δ1.set i (some c1)).set j (some c2)).set l (some c3)) O) (hi : X.N[i]? = some x := by rfl) (hj : X.N[j]? = some y := by rfl) (hl : X.N[l]? = some z := by rfl)
    (hij : i ≠ j := by decide) (hil : i ≠ l := by decide) (hjl : j ≠ l := by decide) (hx : X.env.scope.names.lookup x = some .local := by rfl) (hy : X.env.scope.names.lookup y = some .local := by rfl) (hz : X.env.scope.names.lookup z = some .local := by rfl)
    (hw : swappedStores [.Tuple [.Name x px, .Name y py, .Name z pz] kt pt] (.Tuple [a, b, d] k2 pt2) X.env = pure (some [x, y, z]) := by rfl) (hs : swapsWithSole [.Tuple [.Name x px, .Name y py, .Name z pz] kt pt] (.Tuple [a, b, d] k2 pt2) pos.line X.env = pure false := by rfl) :
    JB X (.Assign [.Tuple [.Name x px, .Name y py, .Name z pz] kt pt] (.Tuple [a, b, d] k2 pt2) pos :: sts) δ O :=
  jb_then (δ1 := ((δ1.set i (some c1)).set j (some c2)).set l (some c3)) (PS.imp (ps_par3 hc hN hi hj hl hij hil hjl hx hy hz ha hw hs) fun D σ H ⟨F, B, E, n, _, _, _⟩ => ⟨F, B, E, fun vs F1 B1 H1 ch E1 s1 => by
    have E2 := Env.takes ch E1 [i, j, l] (by simp [hij, hil, hjl])
    cases ch with
    | cons g1 k1 t =>
      cases t with
      | cons g2 k2 t =>
        cases t with
        | cons g3 k3 t =>
          cases t
          exact ⟨_, _, _, rfl, n _ _ B1 H1 rfl (E2 rfl) s1⟩⟩) k
/-- names as targets, by their slots -/
def tNs (is : List Nat) : TGs := fun vs σ H Q => is.length = vs.length ∧ Q (setAll σ is vs) H
theorem gns_nil : PGs X [] (tNs []) := PGs.imp pgs_nil fun v σ H Q ⟨l, q⟩ => by
  cases v with
  | nil => exact ⟨rfl, q⟩
  | cons _ _ => cases l
theorem gns_cons {x : Str} {is : List Nat} {px : Pos} (i : Nat) (hN : X.N.Nodup) (h : PGs X es (tNs is)) (hi : X.N[i]? = some x := by rfl) (hx : Loc X.env.scope x := by first | exact Or.inl rfl | exact Or.inr rfl) (hf : X.fn x = true ∨ X.env.scope.names.lookup x = some .local := by first | exact .inl rfl | exact .inr rfl | assumption)
    (hs : (assignEach (.Name x px :: es) X.env).map (·.2) = assign (.Name x px) X.env :: (assignEach es X.env).map (·.2) := by rfl) : PGs X (.Name x px :: es) (tNs (i :: is)) :=
  PGs.imp (pgs_cons (pg_name hN hi hx hf) h hs) fun v σ H Q ⟨l, q⟩ => by
    cases v with
    | nil => cases l
    | cons v vs => exact ⟨v, vs, rfl, Nat.succ.inj l, q⟩
/-- x, y, .. = a, b, ..: by way of a tuple -/
theorem jb_tupX {ts : List Expr} {is : List Nat} {kt k2 : Nat} {pt pt2 : Pos} (hc : X.calm = true) (ha : JXs X es δ δ1 cs) (hg : PGs X ts (tNs is)) (nd : is.Nodup) (hl : is.length = cs.length) (h64 : cs.length ≤ 64) (k : JB X sts (setAll δ1 is cs) O) (hn : (assignEach ts X.env).length = cs.length := by rfl) (hst : (assignEach ts X.env).findIdx? (·.1) = none := by rfl)
    (hs : swapsWithSole [.Tuple ts kt pt] (.Tuple es k2 pt2) pos.line X.env = pure false := by rfl) (hw : swappedStores [.Tuple ts kt pt] (.Tuple es k2 pt2) X.env = pure none := by rfl) (h1 : (assignEach [.Tuple ts kt pt] X.env).map (·.2) = [assign (.Tuple ts kt pt) X.env] := by rfl) :
    JB X (.Assign [.Tuple ts kt pt] (.Tuple es k2 pt2) pos :: sts) δ O :=
  jb_then (δ1 := setAll δ1 is cs) (PS.imp (ps_asg (pe_tup ha) (pg_tup (n := cs.length) hc hg hn hst) hs hw h1) fun D σ H ⟨F, B, E, n, _, _, _⟩ => ⟨F, B, E, fun vs F1 B1 H1 ch E1 s1 => by
    have len : vs.length = cs.length := ch.len
    refine ⟨small (by omega), fun p hp => ⟨p, vs, rfl, SqT.of upd_same, len, by rw [hl, len], ?_⟩⟩
    have sB := same_upd (o := .tup vs) (E1.bh.free hp)
    have E2 := E1.laid (o := .tup vs) hp
    have ch2 : Chain (upd B1 p (.tup vs)) (upd H1 p (.tup vs)) F F1 vs cs := ch.mono sB fun a o ho => upd_ne (ne_of_none (E1.fr a o ho).1 hp)
    exact n _ _ _ _ rfl (Env.takes ch2 E2 is nd (by rw [hl, len])) (s1.trans sB)⟩) k
end
end J
/-! Dicts: read, written, by texts and by tuples. -/
namespace J
open PySem PySem.Spec L2

/-! ### pairs -/
section
variable {κ : Type} [DecidableEq κ]
def lk (kvs : List (κ × PyData)) (k : κ) : Option PyData := (kvs.find? fun kv => decide (kv.1 = k)).map (·.2)
def put (kvs : List (κ × PyData)) (k : κ) (d : PyData) : List (κ × PyData) := if (kvs.any fun kv => decide (kv.1 = k)) = true then kvs.map (fun kv => if kv.1 = k then (kv.1, d) else kv) else kvs ++ [(k, d)]
/-- values for data, key by key -/
structure Vd (B : Hp) (ws : List (κ × V)) (kvs : List (κ × PyData)) : Prop where
  ks : ws.map (·.1) = kvs.map (·.1)
  vs : DdAll B (ws.map (·.2)) (kvs.map (·.2))
theorem Vd.mono {B B' : Hp} {ws : List (κ × V)} {kvs : List (κ × PyData)} (h : Vd B ws kvs) (s : Same B B') : Vd B' ws kvs := ⟨h.ks, DdAll.mono s _ _ h.vs⟩
theorem Vd.nil {B : Hp} : Vd B ([] : List (κ × V)) [] := ⟨rfl, .nil⟩
theorem Vd.cases {B : Hp} {p : κ × V} {ws : List (κ × V)} {q : κ × PyData} {kvs : List (κ × PyData)} (h : Vd B (p :: ws) (q :: kvs)) : p.1 = q.1 ∧ Dd B p.2 q.2 ∧ Vd B ws kvs := by
  obtain ⟨h1, h2⟩ := h
  rw [List.map_cons, List.map_cons] at h1 h2
  injection h1 with a b
  cases h2 with
  | cons c d => exact ⟨a, c, b, d⟩
theorem Vd.cons {B : Hp} {p : κ × V} {ws : List (κ × V)} {q : κ × PyData} {kvs : List (κ × PyData)} (h1 : p.1 = q.1) (h2 : Dd B p.2 q.2) (h : Vd B ws kvs) : Vd B (p :: ws) (q :: kvs) := ⟨by rw [List.map_cons, List.map_cons, h1, h.ks], by rw [List.map_cons, List.map_cons]; exact .cons h2 h.vs⟩
theorem Vd.len {B : Hp} {ws : List (κ × V)} {kvs : List (κ × PyData)} (h : Vd B ws kvs) : ws.length = kvs.length := by
  have e := congrArg List.length h.ks
  rw [List.length_map, List.length_map] at e
  exact e
theorem Vd.get {B : Hp} : ∀ {ws : List (κ × V)} {kvs : List (κ × PyData)}, Vd B ws kvs → ∀ k, (∀ d, lk kvs k = some d → ∃ v, valV ws k = some v ∧ Dd B v d) ∧ (lk kvs k = none → valV ws k = none)
  | [], [], _, k => ⟨fun d h => (nomatch h), fun _ => rfl⟩
  | [], _ :: _, h, _ => absurd h.len (by simp)
  | _ :: _, [], h, _ => absurd h.len (by simp)
  | p :: ws, q :: kvs, h, k => by
    obtain ⟨h1, h2, h3⟩ := h.cases
    unfold lk valV
    rw [List.find?_cons, List.find?_cons, h1]
    by_cases e : q.1 = k
    · rw [decide_eq_true e]
      exact ⟨fun d z => ⟨p.2, rfl, by rw [← Option.some.inj z]; exact h2⟩, fun z => (nomatch z)⟩
    · rw [decide_eq_false e]
      exact Vd.get h3 k
theorem Vd.any {B : Hp} {ws : List (κ × V)} {kvs : List (κ × PyData)} (h : Vd B ws kvs) (k : κ) : (ws.any fun kv => decide (kv.1 = k)) = kvs.any fun kv => decide (kv.1 = k) := by
  have e1 : (ws.any fun kv => decide (kv.1 = k)) = (ws.map (·.1)).any fun x => decide (x = k) := by rw [List.any_map]; rfl
  have e2 : (kvs.any fun kv => decide (kv.1 = k)) = (kvs.map (·.1)).any fun x => decide (x = k) := by rw [List.any_map]; rfl
  rw [e1, e2, h.ks]
theorem Vd.app {B : Hp} {ws ws' : List (κ × V)} {kvs kvs' : List (κ × PyData)} (h : Vd B ws kvs) (h' : Vd B ws' kvs') : Vd B (ws ++ ws') (kvs ++ kvs') := ⟨by rw [List.map_append, List.map_append, h.ks, h'.ks], by rw [List.map_append, List.map_append]; exact h.vs.append h'.vs⟩
theorem Vd.rep {B : Hp} {k : κ} {v : V} {d : PyData} (hv : Dd B v d) : ∀ {ws : List (κ × V)} {kvs : List (κ × PyData)}, Vd B ws kvs → Vd B (ws.map fun kv => if kv.1 = k then (kv.1, v) else kv) (kvs.map fun kv => if kv.1 = k then (kv.1, d) else kv)
  | [], [], _ => .nil
  | [], _ :: _, h => absurd h.len (by simp)
  | _ :: _, [], h => absurd h.len (by simp)
  | p :: ws, q :: kvs, h => by
    obtain ⟨h1, h2, h3⟩ := h.cases
    rw [List.map_cons, List.map_cons]
    by_cases e : q.1 = k
    · rw [if_pos e, if_pos (h1.trans e)]
      exact .cons h1 hv (Vd.rep hv h3)
    · rw [if_neg e, if_neg (by rw [h1]; exact e)]
      exact .cons h1 h2 (Vd.rep hv h3)
theorem Vd.put {B : Hp} {k : κ} {v : V} {d : PyData} {ws : List (κ × V)} {kvs : List (κ × PyData)} (h : Vd B ws kvs) (hv : Dd B v d) : Vd B (putK ws k v) (J.put kvs k d) := by
  unfold putK J.put
  rw [h.any k]
  by_cases e : (kvs.any fun kv => decide (kv.1 = k)) = true
  · rw [if_pos e, if_pos e]
    exact h.rep hv
  · rw [if_neg e, if_neg e]
    exact h.app (.cons rfl hv .nil)
end
/-- a key as data -/
def kD : L2.Key → PyData
  | .inl i => .int i
  | .inr x => .str x
theorem Dd.key {B : Hp} {v : V} {k : L2.Key} (h : Dd B v (kD k)) : v = kV k := by
  cases k with
  | inl i => exact Dd.int_eq h
  | inr x => exact Dd.str_eq h
theorem DdAll.keys {B : Hp} : ∀ {vs : List V} {ks : List L2.Key}, DdAll B vs (ks.map kD) → vs = ks.map kV
  | [], [], _ => rfl
  | [], _ :: _, h => by cases h
  | _ :: _, [], h => by cases h
  | v :: vs, k :: ks, h => by
    cases h with
    | cons a b => rw [Dd.key a, DdAll.keys b]; rfl
def aMK (kvs : List (L2.Key × PyData)) : AV := ⟨fun B v => ∃ a ws, v = .ref a ∧ B a = some (.dK ws) ∧ Vd B ws kvs, fun s ⟨a, ws, h1, h2, h3⟩ => ⟨a, ws, h1, s _ _ h2, h3.mono s⟩⟩
def aMT (kvs : List (List L2.Key × PyData)) : AV := ⟨fun B v => ∃ a ws, v = .ref a ∧ B a = some (.dT ws) ∧ Vd B ws kvs, fun s ⟨a, ws, h1, h2, h3⟩ => ⟨a, ws, h1, s _ _ h2, h3.mono s⟩⟩
/-- one's own -/
def mMT (kvs : List (List L2.Key × PyData)) : MV := ⟨fun B H v R => ∃ a ws, v = .ref a ∧ R = [a] ∧ H a = some (.dT ws) ∧ Vd B ws kvs, fun s k ⟨a, ws, h1, h2, h3, h4⟩ => ⟨a, ws, h1, h2, (k a (by rw [h2]; exact List.mem_singleton.mpr rfl)).trans h3, h4.mono s⟩⟩
/-! ### rules -/
section
variable {X : Cx} {δ δ1 δ2 δ3 : DSt} {A C : AV} {o i e f : Expr} {pos p : Pos} {d : PyData} {O : Out} {sts : List Stmt}
theorem je_dgetK {kvs : List (L2.Key × PyData)} {k : L2.Key} (hu : X.A.units + 1 < cLine) (ho : JE X o δ δ1 (aMK kvs)) (hi : JE X i δ1 δ2 (aD (kD k))) (hk : lk kvs k = some d) (hs : NoSl i := by exact fun _ _ => rfl) : JE X (.Subscript o i pos) δ δ2 (aD d) :=
  PE.imp (pe_dget hu ho hi hs) fun σ H Q ⟨F, B, E, q⟩ => ⟨F, B, E, fun x B1 H1 E1 s1 a1 => ⟨F, B1, E1, fun y B2 H2 E2 s2 a2 => by
    obtain ⟨a, ws, rfl, h2, h3⟩ := (aMK kvs).mono s2 a1
    obtain ⟨v, hv, dv⟩ := (h3.get k).1 d hk
    refine ⟨a, v, rfl, ?_, q v B2 H2 E2 (s1.trans s2) dv⟩
    rw [Dd.key a2, ← hv]
    exact DGet.k (E2.bh _ _ h2)⟩⟩
theorem key_tup {B : Hp} {y : V} {k : List L2.Key} (h : Dd B y (.tuple (k.map kD))) : ∃ b, y = .ref b ∧ B b = some (.tup (k.map kV)) := by
  obtain ⟨b, xs, e1, e2, _, e3⟩ := Dd.tup_eq h
  rw [DdAll.keys e3] at e2
  exact ⟨b, e1, e2⟩
theorem je_dgetT {kvs : List (List L2.Key × PyData)} {k : List L2.Key} (hu : X.A.units + 1 < cLine) (ho : JE X o δ δ1 (aMT kvs)) (hi : JE X i δ1 δ2 (aD (.tuple (k.map kD)))) (hk : lk kvs k = some d) (hs : NoSl i := by exact fun _ _ => rfl) : JE X (.Subscript o i pos) δ δ2 (aD d) :=
  PE.imp (pe_dget hu ho hi hs) fun σ H Q ⟨F, B, E, q⟩ => ⟨F, B, E, fun x B1 H1 E1 s1 a1 => ⟨F, B1, E1, fun y B2 H2 E2 s2 a2 => by
    obtain ⟨a, ws, rfl, h2, h3⟩ := (aMT kvs).mono s2 a1
    obtain ⟨v, hv, dv⟩ := (h3.get k).1 d hk
    obtain ⟨b, rfl, hb⟩ := key_tup a2
    refine ⟨a, v, rfl, ?_, q v B2 H2 E2 (s1.trans s2) dv⟩
    rw [← hv]
    exact DGet.t (E2.bh _ _ h2) (E2.bh _ _ hb)⟩⟩
/-- t.get(k) -/
theorem je_getT {kvs : List (List L2.Key × PyData)} {k : List L2.Key} {apos cpos : Pos} (hu : X.A.units + 1 < cLine) (ho : JE X o δ δ1 (aMT kvs)) (hi : JE X i δ1 δ2 (aD (.tuple (k.map kD)))) (m : M1 X o "get" apos i cpos := by exact ⟨rfl, rfl, rfl, rfl⟩) : JE X (.Call (.Attribute o "get" apos) [i] [] cpos) δ δ2 (aD ((lk kvs k).getD .none)) :=
  PE.imp (pe_dget1 hu ho hi m) fun σ H Q ⟨F, B, E, q⟩ => ⟨F, B, E, fun x B1 H1 E1 s1 a1 => by
    obtain ⟨a, ws, rfl, h2, h3⟩ := a1
    refine ⟨a, rfl, .inr ⟨ws, .inl (E1.bh _ _ h2)⟩, F, B1, E1, fun y B2 H2 E2 s2 a2 => ?_⟩
    obtain ⟨b, rfl, hb⟩ := key_tup a2
    refine ⟨_, DGet.t (E2.bh _ _ (s2 _ _ h2)) (E2.bh _ _ hb), ?_⟩
    have g := h3.get k
    cases z : lk kvs k with
    | none =>
      rw [g.2 z]
      rw [z] at q
      exact q .non B2 H2 E2 (s1.trans s2) .non
    | some d =>
      obtain ⟨v, hv, dv⟩ := g.1 d z
      rw [hv]
      rw [z] at q
      exact q v B2 H2 E2 (s1.trans s2) (Dd.mono s2 _ _ dv)⟩
/-- x.get(k, f), x one's own -/
theorem je_getOwnT {x : Str} {px : Pos} {kvs : List (List L2.Key × PyData)} {k : List L2.Key} {apos cpos : Pos} (n : Nat) (hu : X.A.units + 1 < cLine) (h0 : δ[n]? = some (some (.mut (mMT kvs)))) (hi : JE X i δ δ (aD (.tuple (k.map kD)))) (hf : JE X f δ δ (aD d)) (hN : X.N[n]? = some x := by rfl)
    (hv : Vis X.env.scope x := by first | exact Or.inl rfl | exact Or.inr (Or.inl rfl) | exact Or.inr (Or.inr rfl)) (hd : (x == ("__debug__" : Str)) = false := by decide) (hcd : (x == ("__classdict__" : Str)) = false := by decide) (m : M2 X (.Name x px) "get" apos i f cpos := by exact ⟨rfl, rfl, rfl, rfl⟩) :
    JE X (.Call (.Attribute (.Name x px) "get" apos) [i, f] [] cpos) δ δ (aD ((lk kvs k).getD d)) :=
  PE.imp (pe_dget2 hu (pe_var hN hv hd hcd) hi hf m) fun σ H Q ⟨F, B, E, q⟩ => by
    obtain ⟨v, R, e1, ⟨a, ws, rfl, _, e3, e4⟩, _, _⟩ := E.wr h0
    refine ⟨.ref a, e1, a, rfl, .inr ⟨ws, .inl e3⟩, F, B, E, fun y B1 H1 E1 s1 a1 => ⟨F, B1, E1, fun z B2 H2 E2 s2 a2 => ?_⟩⟩
    obtain ⟨v', R', f1, ⟨a', ws', g1, _, f3, f4⟩, _, _⟩ := E2.wr h0
    rw [e1] at f1
    cases f1
    cases g1
    obtain ⟨b, rfl, hb⟩ := key_tup (Dd.mono s2 _ _ a1)
    refine ⟨_, DGet.t f3 (E2.bh _ _ hb), ?_⟩
    have g := f4.get k
    cases z : lk kvs k with
    | none =>
      rw [g.2 z]
      rw [z] at q
      exact q _ B2 H2 E2 (s1.trans s2) a2
    | some d =>
      obtain ⟨v, hv, dv⟩ := g.1 d z
      rw [hv]
      rw [z] at q
      exact q v B2 H2 E2 (s1.trans s2) dv
/-- x[k] = e, x one's own -/
theorem js_putT {x : Str} {px ps : Pos} {kvs : List (List L2.Key × PyData)} {k : List L2.Key} (n : Nat) (hu : X.A.units + 1 < cLine) (he : JE X e δ δ1 (aD d)) (h0 : δ1[n]? = some (some (.mut (mMT kvs)))) (hi : JE X i δ1 δ1 (aD (.tuple (k.map kD)))) (hz : kvs.length < sizeLine) (kk : O.nx (δ1.set n (some (.mut (mMT (put kvs k d))))))
    (hN : X.N[n]? = some x := by rfl) (hv : Vis X.env.scope x := by first | exact Or.inl rfl | exact Or.inr (Or.inl rfl) | exact Or.inr (Or.inr rfl)) (hd : (x == ("__debug__" : Str)) = false := by decide) (hcd : (x == ("__classdict__" : Str)) = false := by decide)
    (hs : swapsWithSole [.Subscript (.Name x px) i ps] e pos.line X.env = pure false := by rfl) (hw : swappedStores [.Subscript (.Name x px) i ps] e X.env = pure none := by rfl) (h1 : (assignEach [.Subscript (.Name x px) i ps] X.env).map (·.2) = [assign (.Subscript (.Name x px) i ps) X.env] := by rfl)
    (ha : ∀ v, assign (.Subscript (.Name x px) i ps) X.env v = (do
      let ov ← holding [v] (eval (.Name x px) X.env)
      let iv ← holding [v, ov] (eval i X.env)
      standAt ps
      holding [v, ov, iv] (setItem ov iv v)
      release [v, ov, iv] []) := by intro _; rfl) : JS X (.Assign [.Subscript (.Name x px) i ps] e pos) δ O :=
  PS.imp (ps_asg he (pg_sub (pe_var hN hv hd hcd) hi (set_dict hu) ha) hs hw h1) fun D σ H ⟨F, B, E, nx, _, _, _⟩ => ⟨F, B, E, fun v B1 H1 E1 s1 a1 => by
    obtain ⟨u, R, e1, ⟨a, ws, rfl, _, e3, e4⟩, _, _⟩ := E1.wr h0
    refine ⟨.ref a, e1, F, B1, E1, fun y B2 H2 E2 s2 a2 => ?_⟩
    obtain ⟨v', R', f1, ⟨a', ws', g1, g2, f3, f4⟩, _, up⟩ := E2.wr h0
    rw [e1] at f1
    cases f1
    cases g1
    obtain ⟨b, rfl, hb⟩ := key_tup a2
    refine ⟨a, _, rfl, .inr ⟨ws', k, b, f3, rfl, E2.bh _ _ hb, by rw [f4.len]; exact hz, rfl⟩, ?_⟩
    exact nx _ _ B2 _ kk (up a _ (mMT (put kvs k d)) (by rw [g2]; exact List.mem_singleton.mpr rfl) (fun _ z => nomatch z) ⟨a, _, rfl, g2, upd_same, f4.put (Dd.mono s2 _ _ a1)⟩) (s1.trans s2)⟩
theorem jx_newT : JX X (.Dict [] [] pos) δ δ (.mut (mMT [])) := PE.imp pe_dnewT fun σ H Q ⟨F, B, E, q⟩ => fun p hp => q (.ref p) [p] _ B _ (.one (E.fresh hp)) (E.newOwn hp) (Same.refl _) ⟨p, [], rfl, rfl, upd_same, .nil⟩
/-- one's own dict read as data from here on -/
theorem jb_frzT {kvs : List (List L2.Key × PyData)} (n : Nat) (hi : δ[n]? = some (some (.mut (mMT kvs)))) (h : JB X sts (δ.set n (some (.val (aMT kvs)))) O) : JB X sts δ O :=
  PSs.imp h fun D σ H ⟨F, B, E, nx, r, b, c⟩ => by
    obtain ⟨B1, E1, s⟩ := E.frz (A := aMT kvs) hi fun B' v R s k ⟨a, ws, h1, h2, h3, h4⟩ => ⟨a, ws, h1, by rw [k a (by rw [h2]; exact List.mem_singleton.mpr rfl)]; exact h3, h4.mono s⟩
    exact ⟨F, B1, E1, fun d x y z o e t => nx d x y z o e (s.trans t), fun A v y z o f t => r A v y z o f (s.trans t), fun d x y z o e t => b d x y z o e (s.trans t), fun d x y z o e t => c d x y z o e (s.trans t)⟩
end
end J
/-! Lists and tuples of anything known; tuples that are plain; dict(pairs). -/
namespace J
open PySem PySem.Spec L2
abbrev AllA (B : Hp) (As : List AV) (vs : List V) : Prop := All2 (fun (A : AV) v => A.p B v) As vs
theorem AllA.mono {B B' : Hp} (s : Same B B') {As : List AV} {vs : List V} (h : AllA B As vs) : AllA B' As vs := h.imp fun A v q => A.mono s q
def isLA (As : List AV) : Hp → HO → Prop := fun B o => ∃ vs, o = .lst vs ∧ AllA B As vs ∧ As.length ≤ sizeLine
theorem isLA_of {ds : List PyData} (B : Hp) (o : HO) (h : isL ds B o) : isLA (ds.map aD) B o := by
  obtain ⟨vs, h1, h2, h3⟩ := h
  exact ⟨vs, h1, h2.all2, by rw [List.length_map]; exact h3⟩
theorem isL_of {ds : List PyData} (B : Hp) (o : HO) (h : isLA (ds.map aD) B o) : isL ds B o := by
  obtain ⟨vs, h1, h2, h3⟩ := h
  exact ⟨vs, h1, DdAll.of2 h2, by rw [List.length_map] at h3; exact h3⟩
/-- a list of such things -/
def aLA (As : List AV) : AV := ⟨fun B v => ∃ a vs, v = .ref a ∧ B a = some (.lst vs) ∧ AllA B As vs ∧ As.length ≤ sizeLine, fun s ⟨a, vs, h1, h2, h3, h4⟩ => ⟨a, vs, h1, s _ _ h2, h3.mono s, h4⟩⟩
/-- a tuple of such things -/
def aTA (As : List AV) : AV := ⟨fun B v => ∃ a vs, v = .ref a ∧ B a = some (.tup vs) ∧ AllA B As vs ∧ As.length ≤ sizeLine, fun s ⟨a, vs, h1, h2, h3, h4⟩ => ⟨a, vs, h1, s _ _ h2, h3.mono s, h4⟩⟩
/-- a plain tuple: its object is known to have no dict of its own -/
def aTF (As : List AV) : AV := ⟨fun B v => ∃ a o vs, v = .ref a ∧ B a = some (.frz o (.tup vs)) ∧ o.cls = .type "tuple" ∧ o.dict = none ∧ AllA B As vs ∧ As.length ≤ sizeLine, fun s ⟨a, o, vs, h1, h2, h3, h4, h5, h6⟩ => ⟨a, o, vs, h1, s _ _ h2, h3, h4, h5.mono s, h6⟩⟩
section
variable {X : Cx} {δ δ1 δ2 : DSt} {A C : AV} {As : List AV} {a b e : Expr} {pos p : Pos} {ds : List PyData}
theorem JNA.dat (h : JN X e δ δ1 (isLA As)) : JE X e δ δ1 (aLA As) :=
  PE.imp h fun σ H Q ⟨F, B, E, q⟩ => ⟨F, B, E, fun p o B1 H1 f E1 s1 ⟨vs, eo, dv, hl⟩ => by
    subst eo
    have sB := same_upd (o := .lst vs) (E1.fr p _ upd_same).2
    exact q (.ref p) _ _ (E1.freeze f) (s1.trans sB) ⟨p, vs, rfl, upd_same, dv.mono sB, hl⟩⟩
theorem je_LA (h : JE X e δ δ1 (aD (.list ds))) : JE X e δ δ1 (aLA (ds.map aD)) := JE.to h fun B v q => by
  obtain ⟨a, xs, e1, e2, hl, e3⟩ := Dd.lst_eq q
  exact ⟨a, xs, e1, e2, e3.all2, by rw [List.length_map]; exact hl⟩
theorem je_ofTA (h : JE X e δ δ1 (aTA (ds.map aD))) : JE X e δ δ1 (aD (.tuple ds)) := JE.to h fun B v ⟨a, vs, e1, e2, e3, hl⟩ => by
  rw [e1]
  exact .tup e2 (by rw [List.length_map] at hl; exact hl) (DdAll.of2 e3)
theorem je_ofLA (h : JE X e δ δ1 (aLA (ds.map aD))) : JE X e δ δ1 (aD (.list ds)) := JE.to h fun B v ⟨a, vs, e1, e2, e3, hl⟩ => by
  rw [e1]
  exact .lst e2 (by rw [List.length_map] at hl; exact hl) (DdAll.of2 e3)
/-- tuple(list) -/
theorem je_tupleA (hm : X.mg "tuple" = none) (h : JE X e δ δ1 (aLA As)) (hg : Gl X "tuple" := by rfl) (he : starEach [e] X.env = (false, eval e X.env) :: starEach [] X.env := by rfl) : JE X (.Call (.Name "tuple" p) [e] [] pos) δ δ1 (aTA As) :=
  je_Ty call_tuple_of PyProof.Rows.boot_tuple hm (fun B H vs Q s aa q => by
    obtain ⟨v, rfl, a, xs, rfl, e2, e3, hl⟩ := all2_one aa
    exact ⟨a, xs, rfl, .inl ⟨SqL.of (s _ _ e2), fun l hl' => q _ _ _ (.one hl') ⟨l, xs, rfl, upd_same, e3.mono (same_upd (s.free hl')), hl⟩⟩⟩) (ja_cons h ja_nil he) hg (by decide) (by decide) he rfl
def rTupF (K : PySem.W.Frag) : List V → Hp → VK → Prop := fun xs H Q => ∃ p ys, xs = [.ref p] ∧ SqL K H p ys ∧ ∀ l o, H l = none → o.cls = .type "tuple" → o.dict = none → Q (.ref l) (upd H l (.frz o (.tup ys)))
theorem cr_tupF : CallR X (.type "tuple") (rTupF X.K) := by
  intro pins s σ H xs us Q I r h
  obtain ⟨p, ys, rfl, hq, q⟩ := h
  obtain ⟨u, rfl, rx⟩ := vals1 r
  cases rx
  obtain ⟨its, r', pl, hz⟩ := I.list hq
  have hlen := r'.length
  refine call_tuple_list pl.isList (fun h' kp => ?_) (by simp only [List.size_toArray] <;> omega)
  have I1 : L2.Inv X pins σ H { s with heap := h' } := I.kept (t' := s.toks) kp
  have I2 : L2.Inv X pins σ (upd H h'.objs.size (.frz { cls := .type "tuple", data := .seq its.toArray } (.tup ys))) { s with heap := h'.push { cls := .type "tuple", data := .seq its.toArray } } :=
    I1.laid (t' := s.toks) (fun b o e => Heap.get?_push_of_some _ e) (Nat.le_refl _) ⟨Heap.get?_push_size _ rfl, hz, its, r', PyProof.Rows.IsTup.new _ _⟩
  exact ⟨.ref h'.objs.size, _, I2, rfl, q _ _ (I1.hok.fresh (Nat.le_refl _)) rfl rfl⟩
theorem je_tupleF (hm : X.mg "tuple" = none) (h : JE X e δ δ1 (aLA As)) (hg : Gl X "tuple" := by rfl) (he : starEach [e] X.env = (false, eval e X.env) :: starEach [] X.env := by rfl) : JE X (.Call (.Name "tuple" p) [e] [] pos) δ δ1 (aTF As) :=
  je_Ty cr_tupF PyProof.Rows.boot_tuple hm (fun B H vs Q s aa q => by
    obtain ⟨v, rfl, a, xs, rfl, e2, e3, hl⟩ := all2_one aa
    exact ⟨a, xs, rfl, SqL.of (s _ _ e2), fun l o hl' c1 c2 => q _ _ _ (.one hl') ⟨l, o, xs, rfl, upd_same, c1, c2, e3.mono (same_upd (s.free hl')), hl⟩⟩) (ja_cons h ja_nil he) hg (by decide) (by decide) he rfl
/-! ### walked, indexed -/
theorem AllA.at {B : Hp} {vs : List V} {i : Nat} (h : AllA B As vs) (e : As[i]? = some A) : ∃ v, vs[i]? = some v ∧ A.p B v := h.get e
theorem rd_same {B H : Hp} {a : Addr} {u : HO} (s : Same B H) (h : Rd B a u) : Rd H a u := h.imp (fun e => s _ _ e) fun ⟨o, e⟩ => ⟨o, s _ _ e⟩
theorem walksA_tup {K : PySem.W.Frag} {B : Hp} {a : Addr} {xs : List V} (h : Rd B a (.tup xs)) (d : AllA B As xs) : Walks (Itt K a) B As := fun i B1 H1 s s' => ⟨fun hi => ⟨xs, .inl (rd_same s' (rd_same s h)), by rw [← d.length]; exact hi⟩, fun A hA => by
  obtain ⟨v, h1, h2⟩ := d.at hA
  refine ⟨⟨xs, v, .inl (rd_same s' (rd_same s h)), h1⟩, fun y H2 ⟨e, hy⟩ => .inl ⟨e, ?_⟩⟩
  have e2 := hy xs (.inl (rd_same s' (rd_same s h)))
  rw [h1] at e2
  cases e2
  exact A.mono s h2⟩
theorem walksA_lst {K : PySem.W.Frag} {B : Hp} {a : Addr} {xs : List V} (h : B a = some (.lst xs)) (d : AllA B As xs) : Walks (Itl K a) B As := fun i B1 H1 s s' => ⟨fun hi => ⟨xs, SqL.of (s' _ _ (s _ _ h)), by rw [← d.length]; exact hi⟩, fun A hA => by
  obtain ⟨v, h1, h2⟩ := d.at hA
  refine ⟨⟨xs, v, SqL.of (s' _ _ (s _ _ h)), h1⟩, fun y H2 ⟨e, hy⟩ => .inl ⟨e, ?_⟩⟩
  have e2 := hy xs (SqL.of (s' _ _ (s _ _ h)))
  rw [h1] at e2
  cases e2
  exact A.mono s h2⟩
theorem ji_LA {tg : Expr} (h : JE X e δ δ1 (aLA As)) : JI X tg e δ δ1 As :=
  PI.imp (pi_list h) fun σ H R ⟨F, B, E, q⟩ => ⟨F, B, E, fun v B1 H1 E1 s1 ⟨a, xs, e1, e2, e3, hl⟩ => ⟨a, e1, ⟨xs, SqL.of (E1.bh _ _ e2)⟩, q _ B1 H1 E1 s1 (walksA_lst e2 e3) hl⟩⟩
theorem ji_TA {tg : Expr} (h : JE X e δ δ1 (aTA As)) : JI X tg e δ δ1 As :=
  PI.imp (pi_tup h) fun σ H R ⟨F, B, E, q⟩ => ⟨F, B, E, fun v B1 H1 E1 s1 ⟨a, xs, e1, e2, e3, hl⟩ => ⟨a, e1, ⟨xs, SqT.of (E1.bh _ _ e2)⟩, q _ B1 H1 E1 s1 (walksA_tup (.inl e2) e3) hl⟩⟩
theorem ji_TF {tg : Expr} (h : JE X e δ δ1 (aTF As)) : JI X tg e δ δ1 As :=
  PI.imp (pi_tup h) fun σ H R ⟨F, B, E, q⟩ => ⟨F, B, E, fun v B1 H1 E1 s1 ⟨a, o, xs, e1, e2, _, _, e3, hl⟩ => ⟨a, e1, ⟨xs, .inl (.inr ⟨o, E1.bh _ _ e2⟩)⟩, q _ B1 H1 E1 s1 (walksA_tup (.inr ⟨o, e2⟩) e3) hl⟩⟩
theorem atA {B : Hp} {xs : List V} {i : Int} (h : AllA B As xs) (e : atI As i = some A) : ∃ v, atI xs i = some v ∧ A.p B v := by
  unfold atI at e ⊢
  rw [← h.length]
  cases q : ixN As.length i with
  | none => rw [q] at e; cases e
  | some j =>
    rw [q] at e
    obtain ⟨v, h1, h2⟩ := h.at (show As[j]? = some A from e)
    exact ⟨v, h1, h2⟩
theorem je_ixTA {i : Int} (ha : JE X a δ δ1 (aTA As)) (hb : JE X b δ1 δ2 (aI i)) (h : atI As i = some A) (hs : PlainIx b := by exact fun _ _ => rfl) : JE X (.Subscript a b pos) δ δ2 A :=
  je_ix ix_tup (fun B H x y Q s h1 h2 q => by
    obtain ⟨a, xs, e1, e2, e3, hl⟩ := h1
    obtain ⟨v, h3, h4⟩ := atA e3 h
    exact ⟨a, xs, i, v, e1, Dd.int_eq h2, SqT.of (s _ _ e2), h3, q _ B H (.refl B H) h4⟩) ha hb hs
theorem je_ixTF {i : Int} (ha : JE X a δ δ1 (aTF As)) (hb : JE X b δ1 δ2 (aI i)) (h : atI As i = some A) (hs : PlainIx b := by exact fun _ _ => rfl) : JE X (.Subscript a b pos) δ δ2 A :=
  je_ix ix_tup (fun B H x y Q s h1 h2 q => by
    obtain ⟨a, o, xs, e1, e2, _, _, e3, hl⟩ := h1
    obtain ⟨v, h3, h4⟩ := atA e3 h
    exact ⟨a, xs, i, v, e1, Dd.int_eq h2, .inl (.inr ⟨o, s _ _ e2⟩), h3, q _ B H (.refl B H) h4⟩) ha hb hs
theorem je_ixLA {i : Int} (ha : JE X a δ δ1 (aLA As)) (hb : JE X b δ1 δ2 (aI i)) (h : atI As i = some A) (hs : PlainIx b := by exact fun _ _ => rfl) : JE X (.Subscript a b pos) δ δ2 A :=
  je_ix ix_list (fun B H x y Q s h1 h2 q => by
    obtain ⟨a, xs, e1, e2, e3, hl⟩ := h1
    obtain ⟨v, h3, h4⟩ := atA e3 h
    exact ⟨a, xs, i, v, e1, Dd.int_eq h2, SqL.of (s _ _ e2), h3, q _ B H (.refl B H) h4⟩) ha hb hs
/-! ### targets -/
def tGAs (As : List AV) (ws : List Nat) (δ δ' : DSt) : TGs := fun vs σ H Q => ∃ F B, Env F B H σ δ ∧ AllA B As vs ∧ ∀ σ' B' H', Env F B' H' σ' δ' → Same B B' → Only ws σ σ' → Q σ' H'
def JGAs (X : Cx) (ts : List Expr) (As : List AV) (ws : List Nat) (δ δ' : DSt) : Prop := PGs X ts (tGAs As ws δ δ')
theorem jga_nil : JGAs X [] [] [] δ δ := PGs.imp pgs_nil fun v σ H Q ⟨F, B, E, a, k⟩ => by
  cases a
  exact ⟨rfl, k σ B H E (Same.refl _) (Only.refl _ _)⟩
theorem jga_cons {es : List Expr} {ws ws' : List Nat} (h1 : JG X e A ws δ δ1) (h2 : JGAs X es As ws' δ1 δ2) (hs : (assignEach (e :: es) X.env).map (·.2) = assign e X.env :: (assignEach es X.env).map (·.2) := by rfl) : JGAs X (e :: es) (A :: As) (ws ++ ws') δ δ2 :=
  PGs.imp (pgs_cons h1 h2 hs) fun v σ H Q ⟨F, B, E, a, k⟩ => by
    cases a with
    | cons a1 a2 => exact ⟨_, _, rfl, F, B, E, a1, fun σ1 B1 H1 E1 s1 o1 => ⟨F, B1, E1, AllA.mono s1 a2, fun σ2 B2 H2 E2 s2 o2 => k σ2 B2 H2 E2 (s1.trans s2) (o1.trans o2)⟩⟩
theorem jg_TA {es : List Expr} {k : Nat} {ws : List Nat} (hc : X.calm = true) (h : JGAs X es As ws δ δ1) (hn : (assignEach es X.env).length = As.length := by rfl) (hst : (assignEach es X.env).findIdx? (·.1) = none := by rfl) : JG X (.Tuple es k pos) (aTA As) ws δ δ1 :=
  PG.imp (pg_tup hc h hn hst) fun v σ H Q ⟨F, B, E, ⟨p, xs, e1, e2, e3, _⟩, q⟩ => ⟨p, xs, e1, SqT.of (E.bh _ _ e2), e3.length.symm, F, B, E, e3, q⟩
end
/-! ### comprehensions -/
def LcTurnA (X : Cx) (scope : Scope) (tg elt : Expr) (ifs : List Expr) (vs : List Nat) (A : AV) (δ δ' : DSt) (o o' : List AV) : Prop :=
  ∃ ws δ2 δ3 b, (∀ j ∈ ws, j ∈ vs) ∧ Bk X scope (fun Y => JG Y tg A ws δ δ2) ∧ Bk X scope (fun Y => JTs Y ifs δ2 δ3 b) ∧
    (b = true → ∃ δ4 C, Bk X scope (fun Y => JE Y elt δ3 δ4 C) ∧ dwipe δ4 vs = δ' ∧ o' = o ++ [C]) ∧ (b = false → dwipe δ3 vs = δ' ∧ o' = o)
section
variable {X : Cx} {tg iter elt : Expr} {ifs : List Expr} {scope : Scope} {own : List (Str × Nat)} {pos : Pos} {δ δ1 : DSt} {xs : List AV}
theorem len_turnA {δ δ' : DSt} {A : AV} {vs : List Nat} {o o' : List AV} (h : LcTurnA X scope tg elt ifs vs A δ δ' o o') : o.length ≤ o'.length ∧ o'.length ≤ o.length + 1 := by
  obtain ⟨ws, δ2, δ3, b, _, _, _, h1, h2⟩ := h
  cases b with
  | true =>
    obtain ⟨_, d, _, _, e⟩ := h1 rfl
    rw [e, List.length_append, List.length_singleton]
    omega
  | false =>
    rw [(h2 rfl).2]
    omega
theorem lc_readA {vs : List Nat} (δs : Nat → DSt) (outs : Nat → List AV) (h0 : δs 0 = dwipe δ1 vs) (o0 : outs 0 = []) (ht : ∀ i A, xs[i]? = some A → LcTurnA X scope tg elt ifs vs A (δs i) (δs (i + 1)) (outs i) (outs (i + 1))) :
    ∀ σ H Q, tN δ (δs xs.length) (isLA (outs xs.length)) σ H Q → tLc (tI δ δ1 xs) (gAnyB X scope tg) (tAnyB X scope ifs) (eAnyB X scope elt) vs σ H Q := fun σ H Q ⟨F, B, E, q⟩ => ⟨F, B, E, fun J B1 H1 E1 s1 wk hz => fun D hD => by
  have hF : F D = none := E1.fresh hD
  refine ⟨fun i m H' => m = xs.length - i ∧ i ≤ xs.length ∧ (outs i).length ≤ i ∧ ∃ B' acc, Env (upd F D (.lst acc)) B' H' (L2.wipe σ vs) (δs i) ∧ Same B1 B' ∧ AllA B' (outs i) acc,
    ⟨xs.length, rfl, Nat.zero_le _, by rw [o0]; exact Nat.zero_le _, B1, [], by rw [h0]; exact (E1.wipe vs).newOwn hD, Same.refl _, by rw [o0]; exact .nil⟩, ?_⟩
  rintro i m H' ⟨rfl, hi, hl, B', acc, E', s', da⟩
  obtain ⟨w1, w2⟩ := wk i B' H' s' E'.bh
  by_cases hlt : i < xs.length
  · obtain ⟨g, y⟩ := w2 xs[i] (List.getElem?_eq_getElem hlt)
    have T := ht i xs[i] (List.getElem?_eq_getElem hlt)
    have hl2 := (len_turnA T).2
    obtain ⟨ws, δ2, δ3, b, hws, hg, htt, hb1, hb2⟩ := T
    refine .inr ⟨g, fun H3 => ∃ B3 acc3, Env (upd F D (.lst acc3)) B3 H3 (L2.wipe σ vs) (δs (i + 1)) ∧ Same B1 B3 ∧ AllA B3 (outs (i + 1)) acc3, fun H3 h3 => ⟨xs.length - (i + 1), by omega, rfl, hlt, by omega, h3⟩, fun x H2 hy => ?_⟩
    have go : ∀ B2, Env (upd F D (.lst acc)) B2 H2 (L2.wipe σ vs) (δs i) → Same B' B2 → (xs[i]).p B2 x → gAnyB X scope tg x (L2.wipe σ vs) H2 fun σ2 H2 => L2.wipe σ2 vs = L2.wipe σ vs ∧ tAnyB X scope ifs σ2 H2 fun b H3 =>
        if b = true then eAnyB X scope elt σ2 H3 fun y H4 => ∃ acc, H4 D = some (.lst acc) ∧ acc.length < sizeLine ∧ ∃ B3 acc3, Env (upd F D (.lst acc3)) B3 (upd H4 D (.lst (acc ++ [y]))) (L2.wipe σ vs) (δs (i + 1)) ∧ Same B1 B3 ∧ AllA B3 (outs (i + 1)) acc3
        else ∃ B3 acc3, Env (upd F D (.lst acc3)) B3 H3 (L2.wipe σ vs) (δs (i + 1)) ∧ Same B1 B3 ∧ AllA B3 (outs (i + 1)) acc3 := fun B2 E2 s2 a2 =>
      ⟨_, ws, _, δ2, hg, _, B2, E2, a2, fun σ3 B3 H3 E3 s3 on => by
        have hwp : L2.wipe σ3 vs = L2.wipe σ vs := (wipe_only on hws).trans (wipe_wipe σ vs)
        refine ⟨hwp, δ2, δ3, b, htt, _, B3, E3, fun B4 H4 E4 s4 => ?_⟩
        cases b with
        | true =>
          obtain ⟨δ4, d, he, e4, eo⟩ := hb1 rfl
          refine iteT ⟨δ3, δ4, d, he, _, B4, E4, fun z B5 H5 E5 s5 a5 => ?_⟩
          have hH := E5.fr D _ upd_same
          refine ⟨acc, hH.1, ?_, B5, acc ++ [z], ?_, ((((s'.trans s2).trans s3).trans s4).trans s5), ?_⟩
          · rw [← da.length]
            omega
          · have E6 := (E5.reOwn (o' := .lst (acc ++ [z]))).wipe vs
            rw [hwp, e4] at E6
            exact E6
          · rw [eo]
            exact All2.append (AllA.mono ((((s2.trans s3).trans s4).trans s5)) da) (.cons a5 .nil)
        | false =>
          obtain ⟨e4, eo⟩ := hb2 rfl
          refine iteF ⟨B4, acc, ?_, ((s'.trans s2).trans s3).trans s4, ?_⟩
          · have E6 := E4.wipe vs
            rw [hwp, e4] at E6
            exact E6
          · rw [eo]
            exact AllA.mono ((s2.trans s3).trans s4) da⟩
    rcases hy' : y x H2 hy with ⟨e, a2⟩ | ⟨T, o, hT, e, a2⟩
    · subst e
      exact go B' E' (Same.refl _) a2
    · subst e
      exact go _ (E'.laid hT) (same_upd (E'.bh.free hT)) a2
  · have e : i = xs.length := by omega
    subst e
    refine .inl ⟨w1 (Nat.le_refl _), q D (.lst acc) B' H' hF ?_ (s1.trans s') ⟨acc, rfl, da, by omega⟩⟩
    exact E'.unwipe⟩
theorem jn_lcA (δs : Nat → DSt) (outs : Nat → List AV) (hi : JI X tg iter δ δ1 xs) (h0 : δs 0 = dwipe δ1 (own.map (·.2))) (o0 : outs 0 = []) (ht : ∀ i A, xs[i]? = some A → LcTurnA X scope tg elt ifs (own.map (·.2)) A (δs i) (δs (i + 1)) (outs i) (outs (i + 1)))
    (hc : X.calm = true) (hN : X.N.Nodup) (ok : BlkOk X.N X.env.scope scope own) (hs : ∀ x, foldedSetIterable iter X.env x = pure x := by intro _; rfl) : JN X (.ListComp elt [⟨tg, iter, ifs, 0⟩] scope pos) δ (δs xs.length) (isLA (outs xs.length)) :=
  PE.imp (pe_lc hc hN hi ok pg_anyB pt_anyB pe_anyB hs) (lc_readA δs outs h0 o0 ht)
/-- [elt for tg in iter], any target -/
theorem jn_mG {α : Type} (xs : List α) (In Of : α → AV) (st : α → DSt) {ws : List Nat} (hi : JI X tg iter δ δ1 (xs.map In)) (ok : BlkOk X.N X.env.scope scope own) (hG : ∀ x ∈ xs, Bk X scope fun Y => JG Y tg (In x) ws (dwipe δ1 (own.map (·.2))) (st x))
    (hE : ∀ x ∈ xs, Bk X scope fun Y => JE Y elt (st x) (st x) (Of x)) (hc : X.calm = true) (hN : X.N.Nodup) (hws : ∀ j ∈ ws, j ∈ own.map (·.2) := by decide) (hw : ∀ x, dwipe (st x) (own.map (·.2)) = dwipe δ1 (own.map (·.2)) := by intro _; rfl)
    (hs : ∀ x, foldedSetIterable iter X.env x = pure x := by intro _; rfl) : JN X (.ListComp elt [⟨tg, iter, [], 0⟩] scope pos) δ (dwipe δ1 (own.map (·.2))) (isLA (xs.map Of)) := by
  have h := jn_lcA (elt := elt) (ifs := []) (own := own) (pos := pos) (fun _ => dwipe δ1 (own.map (·.2))) (fun i => (xs.take i).map Of) hi rfl rfl (fun i A hA => by
    rw [List.getElem?_map] at hA
    cases hx : xs[i]? with
    | none => rw [hx] at hA; cases hA
    | some x =>
      rw [hx] at hA
      cases hA
      have hm := List.mem_of_getElem? hx
      refine ⟨ws, st x, st x, true, hws, hG x hm, fun _ _ _ _ _ => jts_nil, fun _ => ⟨st x, Of x, hE x hm, hw x, ?_⟩, fun z => nomatch z⟩
      rw [List.take_add_one, hx, List.map_append]
      rfl) hc hN ok hs
  rw [List.length_map, List.take_length] at h
  exact h
/-- [elt for x in iter] -/
theorem jn_mA {α : Type} {x : Str} {tp : Pos} (i : Nat) (xs : List α) (In Of : α → AV) (hi : JI X (.Name x tp) iter δ δ1 (xs.map In)) (ok : BlkOk X.N X.env.scope scope [(x, i)])
    (hE : ∀ y ∈ xs, Bk X scope fun Y => JE Y elt (δ1.set i (some (.val (In y)))) (δ1.set i (some (.val (In y)))) (Of y)) (hc : X.calm = true) (hN : X.N.Nodup) (hx : X.N[i]? = some x := by rfl) (hL : Loc (relS scope X.env.scope) x := by first | exact .inl rfl | exact .inr rfl)
    (hf : (scope.names.lookup x == some .cell) = true ∨ (relS scope X.env.scope).names.lookup x = some .local := by first | exact .inr rfl | exact .inl rfl) (hs : ∀ x, foldedSetIterable iter X.env x = pure x := by intro _; rfl) : JN X (.ListComp elt [⟨.Name x tp, iter, [], 0⟩] scope pos) δ (δ1.set i none) (isLA (xs.map Of)) :=
  jn_mG (own := [(x, i)]) (ws := [i]) (pos := pos) xs In Of (fun y => δ1.set i (some (.val (In y)))) hi ok (fun y hy s H C cl fp => by
    have h := jg_of (A := In y) (δ := dwipe δ1 [i]) (gn_mk (scope := scope) (tp := tp) hN hx hL hf s H C cl fp)
    have e : (dwipe δ1 [i]).set i (some (.val (In y))) = δ1.set i (some (.val (In y))) := by show (δ1.set i none).set i _ = _; rw [List.set_set]
    rw [e] at h
    exact h) hE hc hN (fun j hj => hj) (fun y => by show (δ1.set i _).set i none = δ1.set i none; rw [List.set_set]) hs
end
end J
/-! dict(pairs) of a plain tuple; its index. -/
namespace J
open PySem PySem.Spec L2
section
variable {κ : Type} [DecidableEq κ]
def mg0 (kvs : List (κ × PyData)) : List (κ × PyData) := kvs
theorem any_ff {ws : List (κ × V)} {k : κ} (h : k ∉ ws.map (·.1)) : (ws.any fun kv => decide (kv.1 = k)) = false := by
  rw [List.any_eq_false]
  intro x hx e
  exact h (List.mem_map.mpr ⟨x, hx, of_decide_eq_true e⟩)
end
theorem merge_nodup : ∀ {more kvs : List (L2.Key × V)}, ((kvs ++ more).map (·.1)).Nodup → mergeK kvs more = kvs ++ more
  | [], kvs, _ => by
    show kvs = kvs ++ []
    rw [List.append_nil]
  | p :: more, kvs, h => by
    show mergeK (putK kvs p.1 p.2) more = _
    have hn : p.1 ∉ kvs.map (·.1) := fun z => by
      rw [List.map_append, List.map_cons, List.nodup_append] at h
      exact h.2.2 _ z _ List.mem_cons_self rfl
    have e : putK kvs p.1 p.2 = kvs ++ [p] := by
      unfold putK
      rw [any_ff hn]
      rfl
    have e2 : kvs ++ p :: more = kvs ++ [p] ++ more := by rw [List.append_assoc]; rfl
    rw [e, e2]
    exact merge_nodup (by rw [← e2]; exact h)
section
open PySem (storedH storedAllH)
variable {K : Type} [DecidableEq K]
theorem stored_nodup : ∀ {ps xs : List (K × Addr × Value)}, ((xs ++ ps).map (·.1)).Nodup → storedAllH xs ps = xs ++ ps
  | [], xs, _ => by
    show xs = xs ++ []
    rw [List.append_nil]
  | p :: ps, xs, h => by
    show storedAllH (storedH xs p.1 p.2.1 p.2.2) ps = _
    have hn : p.1 ∉ xs.map (·.1) := fun z => by
      rw [List.map_append, List.map_cons, List.nodup_append] at h
      exact h.2.2 _ z _ List.mem_cons_self rfl
    have e : storedH xs p.1 p.2.1 p.2.2 = xs ++ [p] := by
      refine storedH_new ?_ _ _
      unfold atKey
      rw [List.find?_eq_none.mpr fun x hx q => hn (List.mem_map.mpr ⟨x, hx, of_decide_eq_true q⟩)]
      rfl
    have e2 : xs ++ p :: ps = xs ++ [p] ++ ps := by rw [List.append_assoc]; rfl
    rw [e, e2]
    exact stored_nodup (by rw [← e2]; exact h)
end
/-- a list told item by item -/
theorem list_of {α : Type} {P : Nat → α → Prop} : ∀ n, (∀ j, j < n → ∃ x, P j x) → ∃ l : List α, l.length = n ∧ ∀ j x, l[j]? = some x → P j x
  | 0, _ => ⟨[], rfl, fun j x e => by simp at e⟩
  | n + 1, h => by
    obtain ⟨l, hl, hp⟩ := list_of n fun j hj => h j (by omega)
    obtain ⟨x, hx⟩ := h n (Nat.lt_succ_self n)
    refine ⟨l ++ [x], by rw [List.length_append, hl]; rfl, fun j y e => ?_⟩
    by_cases q : j < n
    · rw [List.getElem?_append_left (by omega)] at e
      exact hp j y e
    · by_cases z : j = n
      · subst z
        rw [List.getElem?_append_right (by omega), hl, Nat.sub_self] at e
        have e' : x = y := Option.some.inj e
        rw [← e']
        exact hx
      · rw [List.getElem?_eq_none (by rw [List.length_append, hl]; simp; omega)] at e
        cases e
section
variable {X : Cx}
/-- dict(t), t a plain tuple of pairs, texts or ints ahead -/
def rDictF (K : PySem.W.Frag) : List V → Hp → VK → Prop := fun xs H Q => ∃ (a : Addr) (o : Obj) (ps : List Addr) (kvs : List (L2.Key × V)), xs = [.ref a] ∧ H a = some (.frz o (.tup (ps.map V.ref))) ∧ o.cls = .type "tuple" ∧ o.dict = none ∧ Paired (fun p kv => SqT K H p [kV kv.1, kv.2]) ps kvs ∧ (kvs.map (·.1)).Nodup ∧
  ∀ p, H p = none → Q (.ref p) (upd H p (.dK kvs))
theorem frz_plain {pins : List (Addr × Obj)} {σ : L2.St} {H : Hp} {s : Shared} {a : Addr} {o : Obj} {ps : List Addr} (I : L2.Inv X pins σ H s) (h : H a = some (.frz o (.tup (ps.map V.ref)))) (hc : o.cls = .type "tuple") (hd : o.dict = none) : PlainSeq "tuple" s.heap a (ps.map Value.ref).toArray ∧ ps.length ≤ sizeLine := by
  obtain ⟨ho, hz, its, rv, o', ho', _, n, hdat⟩ := I.hok a _ h
  obtain rfl : o = o' := Option.some.inj (ho.symm.trans ho')
  have e := refs_at rv
  subst e
  rw [List.length_map] at hz
  exact ⟨⟨o, n, ho, hc, hd, hdat⟩, hz⟩
theorem cr_dictF (hc : X.calm = true) : CallR X (.type "dict") (rDictF X.K) := by
  intro pins s σ H xs us Q I r q
  obtain ⟨a, o, ps, kvs, rfl, hq, c1, c2, hp, nd, q⟩ := q
  obtain ⟨u, rfl, rx⟩ := vals1 r
  cases rx
  obtain ⟨plain, hz⟩ := frz_plain I hq c1 c2
  obtain ⟨prs, rel, hl, hpr⟩ := pairs_of I hp
  obtain ⟨pv, pvl, pvp⟩ := list_of (α := Value × Value) (P := fun j x => ∃ b q, ps[j]? = some b ∧ prs[j]? = some q ∧ PyProof.Rows.IsTup s.heap b #[x.1, q.2] ∧ keyIs q.1 x.1 = true ∧ x.2 = q.2) prs.length fun j hj => by
    obtain ⟨b, u, e1, e2, e3⟩ := hpr j _ (List.getElem?_eq_getElem hj)
    exact ⟨(u, prs[j].2), b, prs[j], e1, List.getElem?_eq_getElem hj, e2, e3, rfl⟩
  have kl : kvs.length = ps.length := by rw [rel.length, hl]
  refine PySem.call_dict_pairs (knd := mixKind X.prog X.w) (kvs := prs) (PairArg.tuple a (ps.map Value.ref).toArray (fun j => ps.getD j 0) pv) (I.ok.hd hc) ⟨plain, by rw [List.size_toArray, List.length_map, pvl, hl], fun j k v e => ?_⟩ ⟨pvl.symm, fun j k v e => ?_⟩ (by rw [pvl, hl]; exact hz) fun h' tk hd' k => ?_
  · obtain ⟨b, q, e1, e2, e3, e4, e5⟩ := pvp j _ e
    refine ⟨by simp [e1, List.getD_eq_getElem?_getD], .inl ?_⟩
    have e6 : v = q.2 := e5
    have eb : ps.getD j 0 = b := by rw [List.getD_eq_getElem?_getD, e1]; rfl
    show s.heap.IsTuple (ps.getD j 0) #[k, v]
    rw [eb, e6]
    exact e3
  · obtain ⟨b, q, e1, e2, e3, e4, e5⟩ := pvp j _ e
    refine ⟨q.1, ?_, e4⟩
    have e6 : v = q.2 := e5
    rw [e2, e6]
  · have hm : (s.heap.objs.size == sysModules) = false := beq_eq_false_iff_ne.mpr (Nat.ne_of_gt I.big)
    have em : mergeK [] kvs = kvs := merge_nodup nd
    have R := KV.merge rel .nil
    rw [em] at R
    exact ⟨.ref s.heap.objs.size, upd H s.heap.objs.size (.dK kvs), I.laid (t' := tk) (fun b o e => k b o (fun z => nomatch z) e) (Nat.le_refl _) (show ObjOk X.prog X.w _ _ _ (.dK kvs) from ⟨by rw [kl]; exact hz, hm, merged [] prs, R, hd'⟩), rfl, q _ (I.hok.fresh (Nat.le_refl _))⟩
/-- dict(t), tuples of texts and ints ahead -/
def rDictT (K : PySem.W.Frag) : List V → Hp → VK → Prop := fun xs H Q => ∃ (a : Addr) (o : Obj) (ps : List (Addr × Addr)) (kvs : List (List L2.Key × V)), xs = [.ref a] ∧ H a = some (.frz o (.tup (ps.map fun p => V.ref p.1))) ∧ o.cls = .type "tuple" ∧ o.dict = none ∧
  Paired (fun p kv => SqT K H p.1 [V.ref p.2, kv.2] ∧ H p.2 = some (.tup (kv.1.map kV))) ps kvs ∧ (kvs.map (·.1)).Nodup ∧ ∀ p, H p = none → Q (.ref p) (upd H p (.dT kvs))
theorem pairs_ofT {pins : List (Addr × Obj)} {σ : L2.St} {H : Hp} {s : Shared} (I : L2.Inv X pins σ H s) : ∀ {ps : List (Addr × Addr)} {kvs : List (List L2.Key × V)}, Paired (fun p kv => SqT X.K H p.1 [V.ref p.2, kv.2] ∧ H p.2 = some (.tup (kv.1.map kV))) ps kvs →
    ∃ prs : List (List L2.Key × Addr × Value), L2.KT H kvs prs ∧ prs.length = ps.length ∧ ∀ (j : Nat) (q : List L2.Key × Addr × Value), prs[j]? = some q → ∃ p, ps[j]? = some p ∧ PyProof.Rows.IsTup s.heap p.1 #[.ref q.2.1, q.2.2] ∧ IsTupleKey (mixKind X.prog X.w) s.heap q.1 q.2.1
  | _, _, .nil => ⟨[], .nil, rfl, fun j q e => by simp at e⟩
  | _, _, .cons (a := p) (b := kv) h t => by
    obtain ⟨prs, r, hl, hp⟩ := pairs_ofT I t
    obtain ⟨its, rv, ht, _⟩ := I.tuple h.1
    obtain ⟨u, y, ei, ru, ry⟩ := vals2 rv
    subst ei
    obtain rfl : u = Value.ref p.2 := ru
    refine ⟨(kv.1, p.2, y) :: prs, .cons ⟨rfl, h.2, ry⟩ r, by rw [List.length_cons, List.length_cons, hl], fun j q e => ?_⟩
    cases j with
    | zero =>
      have e' : (kv.1, p.2, y) = q := Option.some.inj e
      subst e'
      obtain ⟨_, its2, r2, o, ho, hc, n, hd⟩ := I.hok _ _ h.2
      exact ⟨p, rfl, ht, o, its2.toArray, n, ho, hc, hd, by simpa using items_are r2⟩
    | succ j =>
      obtain ⟨b, e1, e2, e3⟩ := hp j q (by simpa using e)
      exact ⟨b, by simpa using e1, e2, e3⟩
theorem kt_keys {H : Hp} : ∀ {kvs : List (List L2.Key × V)} {prs : List (List L2.Key × Addr × Value)}, L2.KT H kvs prs → kvs.map (·.1) = prs.map (·.1)
  | _, _, .nil => rfl
  | _, _, .cons h t => by rw [List.map_cons, List.map_cons, h.1, kt_keys t]
theorem kt_up {H : Hp} {p : Addr} {u : HO} (hp : H p = none) : ∀ {kvs : List (List L2.Key × V)} {prs : List (List L2.Key × Addr × Value)}, L2.KT H kvs prs → L2.KT (upd H p u) kvs prs
  | _, _, .nil => .nil
  | _, _, .cons h t => .cons ⟨h.1, by rw [upd_ne (ne_of_none h.2.1 hp)]; exact h.2.1, h.2.2⟩ (kt_up hp t)
theorem cr_dictT (hc : X.calm = true) (hu : X.A.units + 64 < cLine) : CallR X (.type "dict") (rDictT X.K) := by
  intro pins s σ H xs us Q I r q
  obtain ⟨a, o, ps, kvs, rfl, hq, c1, c2, hp, nd, q⟩ := q
  obtain ⟨u, rfl, rx⟩ := vals1 r
  cases rx
  have hq' : H a = some (.frz o (.tup ((ps.map (·.1)).map V.ref))) := by rw [List.map_map]; exact hq
  obtain ⟨plain, hz⟩ := frz_plain I hq' c1 c2
  rw [List.length_map] at hz
  obtain ⟨prs, rel, hl, hpr⟩ := pairs_ofT I hp
  have kl : kvs.length = ps.length := by rw [Paired.length rel, hl]
  have kk : ∀ x ∈ prs, IsTupleKey (mixKind X.prog X.w) s.heap x.1 x.2.1 := fun x hx => by
    obtain ⟨j, hj, e⟩ := List.getElem_of_mem hx
    obtain ⟨p, _, _, z⟩ := hpr j x (by rw [List.getElem?_eq_getElem hj, e])
    exact z
  refine PySem.call_dict_pairsH (knd := tupleKind (mixKind X.prog X.w)) (ps := prs) (PairArg.tuple a ((ps.map (·.1)).map Value.ref).toArray (fun j => (ps.map (·.1)).getD j 0) (prs.map fun q => (Value.ref q.2.1, q.2.2))) (I.ok.hd hc) (by show X.A.units + 1 + 1 < _; omega) ⟨plain, by rw [List.size_toArray, List.length_map, List.length_map, List.length_map, hl], fun j k v e => ?_⟩ ⟨by rw [List.length_map], fun j k v e => ?_⟩ (fun h' kp x hx => ?_) (by rw [List.length_map, hl]; exact hz) fun h' tk hd' k => ?_
  · rw [List.getElem?_map] at e
    cases z : prs[j]? with
    | none => rw [z] at e; cases e
    | some q =>
      rw [z] at e
      cases e
      obtain ⟨p, e1, e2, e3⟩ := hpr j q z
      refine ⟨by simp [e1, List.getD_eq_getElem?_getD], .inl ?_⟩
      have eb : (ps.map (·.1)).getD j 0 = p.1 := by rw [List.getD_eq_getElem?_getD, List.getElem?_map, e1]; rfl
      show s.heap.IsTuple ((ps.map (·.1)).getD j 0) _
      rw [eb]
      exact e2
  · rw [PairRel, List.getElem?_map] at e
    cases z : prs[j]? with
    | none => rw [z] at e; cases e
    | some q =>
      rw [z] at e
      cases e
      exact ⟨q.1, q.2.1, rfl, rfl⟩
  · obtain ⟨ob, its, n, ho, rest⟩ := kk x hx
    exact ⟨ob, its, n, kp _ _ (Nat.ne_of_lt (Heap.lt_size ho)) (fun z => nomatch z) ho, rest⟩
  · have hm : (s.heap.objs.size == sysModules) = false := beq_eq_false_iff_ne.mpr (Nat.ne_of_gt I.big)
    have hn : H s.heap.objs.size = none := I.hok.fresh (Nat.le_refl _)
    have em : storedAllH [] prs = prs := stored_nodup (by rw [List.nil_append, ← kt_keys rel]; exact nd)
    rw [em] at hd'
    obtain ⟨ob, es, ep, h1, h2, h3, h4, h5, h6⟩ := hd'
    exact ⟨.ref s.heap.objs.size, upd H s.heap.objs.size (.dT kvs), I.laid (t' := tk) (fun b o e => k b o (fun z => nomatch z) e) (Nat.le_refl _) (show ObjOk X.prog X.w _ _ _ (.dT kvs) from ⟨by rw [kl]; exact hz, hm, prs, kt_up hn rel, ob, es, ep, h1, h2, h3, h4, h6⟩), rfl, q _ hn⟩
end
section
variable {X : Cx} {δ δ1 δ2 : DSt} {A C : AV} {As : List AV} {a b e : Expr} {pos p : Pos} {ds : List PyData}
theorem pairs_dd {K : PySem.W.Frag} {B H : Hp} (s : Same B H) : ∀ {kvs : List (L2.Key × PyData)} {vs : List V}, AllA B (kvs.map fun kv => aD (.tuple [kD kv.1, kv.2])) vs → ∃ (ps : List Addr) (ws : List (L2.Key × V)), vs = ps.map V.ref ∧ Paired (fun p kv => SqT K H p [kV kv.1, kv.2]) ps ws ∧ Vd B ws kvs
  | [], [], _ => ⟨[], [], rfl, .nil, .nil⟩
  | [], _ :: _, h => by cases h
  | _ :: _, [], h => by cases h
  | kv :: kvs, v :: vs, h => by
    cases h with
    | cons r t =>
      obtain ⟨ps, ws, h1, h2, h3⟩ := pairs_dd s t
      obtain ⟨q, xs, rfl, e2, _, e3⟩ := Dd.tup_eq r
      cases e3 with
      | cons r1 t =>
        cases t with
        | cons r2 t =>
          cases t
          rw [Dd.key r1] at e2
          exact ⟨q :: ps, (kv.1, _) :: ws, by rw [h1]; rfl, .cons (SqT.of (s _ _ e2)) h2, .cons rfl r2 h3⟩
theorem je_dictF {kvs : List (L2.Key × PyData)} (hm : X.mg "dict" = none) (hc : X.calm = true) (nd : (kvs.map (·.1)).Nodup) (h : JE X e δ δ1 (aTF (kvs.map fun kv => aD (.tuple [kD kv.1, kv.2])))) (hg : Gl X "dict" := by rfl) (he : starEach [e] X.env = (false, eval e X.env) :: starEach [] X.env := by rfl) :
    JE X (.Call (.Name "dict" p) [e] [] pos) δ δ1 (aMK kvs) :=
  je_Ty (cr_dictF hc) (by decide +kernel) hm (fun B H vs Q s aa q => by
    obtain ⟨v, rfl, a, o, xs, rfl, e2, c1, c2, e3, hl⟩ := all2_one aa
    obtain ⟨ps, ws, rfl, hp, hv⟩ := pairs_dd (K := X.K) s e3
    exact ⟨a, o, ps, ws, rfl, s _ _ e2, c1, c2, hp, by rw [hv.ks]; exact nd, fun p hp' => q _ _ _ (.one hp') ⟨p, ws, rfl, upd_same, hv.mono (same_upd (s.free hp'))⟩⟩) (ja_cons h ja_nil he) hg (by decide) (by decide) he rfl
theorem pairs_ddT {K : PySem.W.Frag} {B H : Hp} (s : Same B H) : ∀ {kvs : List (List L2.Key × PyData)} {vs : List V}, AllA B (kvs.map fun kv => aD (.tuple [.tuple (kv.1.map kD), kv.2])) vs →
    ∃ (ps : List (Addr × Addr)) (ws : List (List L2.Key × V)), vs = ps.map (fun p => V.ref p.1) ∧ Paired (fun p kv => SqT K H p.1 [V.ref p.2, kv.2] ∧ H p.2 = some (.tup (kv.1.map kV))) ps ws ∧ Vd B ws kvs
  | [], [], _ => ⟨[], [], rfl, .nil, .nil⟩
  | [], _ :: _, h => by cases h
  | _ :: _, [], h => by cases h
  | kv :: kvs, v :: vs, h => by
    cases h with
    | cons r t =>
      obtain ⟨ps, ws, h1, h2, h3⟩ := pairs_ddT s t
      obtain ⟨q, xs, rfl, e2, _, e3⟩ := Dd.tup_eq r
      cases e3 with
      | cons r1 t =>
        cases t with
        | cons r2 t =>
          cases t
          obtain ⟨b, rfl, hb⟩ := key_tup r1
          exact ⟨(q, b) :: ps, (kv.1, _) :: ws, by rw [h1]; rfl, .cons ⟨SqT.of (s _ _ e2), s _ _ hb⟩ h2, .cons rfl r2 h3⟩
theorem je_dictT {j : Nat} {kvs : List (List L2.Key × PyData)} (hm : X.mg "dict" = none) (hc : X.calm = true) (hr : Room j X.A) (nd : (kvs.map (·.1)).Nodup) (h : JE X e δ δ1 (aTF (kvs.map fun kv => aD (.tuple [.tuple (kv.1.map kD), kv.2])))) (hg : Gl X "dict" := by rfl) (he : starEach [e] X.env = (false, eval e X.env) :: starEach [] X.env := by rfl) :
    JE X (.Call (.Name "dict" p) [e] [] pos) δ δ1 (aMT kvs) :=
  je_Ty (cr_dictT hc hr.units) (by decide +kernel) hm (fun B H vs Q s aa q => by
    obtain ⟨v, rfl, a, o, xs, rfl, e2, c1, c2, e3, hl⟩ := all2_one aa
    obtain ⟨ps, ws, rfl, hp, hv⟩ := pairs_ddT (K := X.K) s e3
    exact ⟨a, o, ps, ws, rfl, s _ _ e2, c1, c2, hp, by rw [hv.ks]; exact nd, fun p hp' => q _ _ _ (.one hp') ⟨p, ws, rfl, upd_same, hv.mono (same_upd (s.free hp'))⟩⟩) (ja_cons h ja_nil he) hg (by decide) (by decide) he rfl
end
end J
/-! zip of any number of tuples, each item kept by a name. -/
namespace J
open PySem PySem.Spec PyProof.Rows L2
structure Zr where
  it : Addr
  t : Addr
  xs : Array Value
/-- an iterator over the tuple, at k -/
def Zr.At (h : Heap) (r : Zr) (k : Nat) : Prop := h.IsTupleIter r.it r.t k ∧ h.IsTuple r.t r.xs
abbrev ZipO (h : Heap) (z TI TO : Addr) (f0 f1 : Value) : Prop := h.get? z = some { cls := .type "zip", dict := none, data := .fields #[f0, f1, .bool false, .ref TI, .ref TO], slots := #[] }
abbrev TupO (h : Heap) (T : Addr) (xs : List Value) : Prop := h.get? T = some { cls := .type "tuple", data := .seq xs.toArray }
section
variable {P : Program} {w : World} {A : Around} {E : Value → Shared → Prop} {s : Shared}
theorem Zr.At.ext {h h' : Heap} {r : Zr} {k : Nat} {b : Addr} (x : r.At h k) (s : Heap.ExtBut b h h') (n : r.it ≠ b) (m : r.t ≠ b) : r.At h' k := ⟨x.1.extBut s n, x.2.extBut s m⟩
theorem Zr.At.keep {h h' : Heap} {r : Zr} {k : Nat} (x : r.At h k) (a : ∀ o, h.get? r.it = some o → h'.get? r.it = some o) (b : ∀ o, h.get? r.t = some o → h'.get? r.t = some o) : r.At h' k := ⟨x.1.at a, x.2.at b⟩
theorem Zr.At.tne {h : Heap} {r q : Zr} {k j : Nat} (x : r.At h k) (y : q.At h j) : r.t ≠ q.it := fun e => by
  obtain ⟨_, o, ho, hc, _⟩ := x
  obtain ⟨⟨o', ho', hc', _⟩, _⟩ := y
  rw [e, ho'] at ho
  cases ho
  rw [hc'] at hc
  exact absurd (Value.type.inj hc) (by decide)
/-- each drawn once, into a new row -/
theorem draw_all {body : Value → Option Fin × Array Value → Sem (ForInStep (Option Fin × Array Value))} {k : Nat} (hb : ∀ (r : Zr) acc (s : Shared) (Q : ForInStep (Option Fin × Array Value) → Shared → Prop), wpAny (model P w) A (Builtin.SmallTypes.nextOf (.ref r.it)) (fun x s' => Q (.yield (none, acc.push x)) s') E s → wpAny (model P w) A (body (.ref r.it) (none, acc)) Q E s) :
    ∀ (R : List Zr) (acc : Array Value) (s : Shared) (Q : Option Fin × Array Value → Shared → Prop), (R.map Zr.it).Nodup → (∀ r ∈ R, r.At s.heap k) → (∀ r ∈ R, k < r.xs.size) →
      (∀ h' acc', acc'.toList = acc.toList ++ R.map (fun r => r.xs.getD k .none) → (∀ r ∈ R, r.At h' (k + 1)) → (∀ b o, b ∉ R.map Zr.it → s.heap.get? b = some o → h'.get? b = some o) → h'.objs.size = s.heap.objs.size → Q (none, acc') { s with heap := h' }) →
      wpAny (model P w) A (forIn (R.map fun r => Value.ref r.it) (none, acc) body) Q E s
  | [], acc, s, Q, _, _, _, q => by
    rw [List.map_nil, List.forIn_nil]
    exact wpAny_pure (q s.heap acc (by simp) (fun r h => nomatch h) (fun b o _ e => e) rfl)
  | r :: R, acc, s, Q, nd, at', lt, q => by
    rw [List.map_cons, List.forIn_cons]
    obtain ⟨n1, n2⟩ := List.nodup_cons.mp nd
    have a0 := at' r List.mem_cons_self
    refine wpAny_bind (hb r acc s _ (PySem.wpAny_nextOf_tuple_item a0.1 a0.2 (x := r.xs.getD k .none) (by
      have l0 := lt r List.mem_cons_self
      simp [Array.getD_eq_getD_getElem?, l0]) fun h1 it1 sb => ?_))
    refine draw_all hb R (acc.push (r.xs.getD k .none)) _ Q n2 (fun p hp => ?_) (fun p hp => lt p (List.mem_cons_of_mem _ hp)) fun h' acc' e at2 kp sz => ?_
    · have np : p.it ≠ r.it := fun e => n1 (List.mem_map.mpr ⟨p, hp, e⟩)
      exact (at' p (List.mem_cons_of_mem _ hp)).ext sb.extBut np ((at' p (List.mem_cons_of_mem _ hp)).tne a0)
    · refine q h' acc' (by rw [e]; simp) (fun p hp => ?_) (fun b o hb e => ?_) (by rw [sz, sb.1])
      · rcases List.mem_cons.mp hp with z | z
        · rw [z]
          have t1 : h1.IsTuple r.t r.xs := a0.2.extBut sb.extBut (a0.tne a0)
          refine Zr.At.keep (h := h1) ⟨it1, t1⟩ (fun o e => kp _ o n1 e) fun o e => kp _ o (fun m => ?_) e
          obtain ⟨p, hp, e⟩ := List.mem_map.mp m
          exact a0.tne (at' p (List.mem_cons_of_mem _ hp)) e.symm
        · exact at2 p z
      · rw [List.map_cons, List.mem_cons, not_or] at hb
        exact kp b o hb.2 ((sb.2 b hb.1).trans e)
/-- each drawn once, into the row at TO -/
theorem draw_into {body : Value × Nat → Option Fin × Unit → Sem (ForInStep (Option Fin × Unit))} {k : Nat} {TO : Addr}
    (hb : ∀ (r : Zr) (i : Nat) (xs : List Value) (s : Shared) (Q : ForInStep (Option Fin × Unit) → Shared → Prop), TupO s.heap TO xs → xs.length ≤ sizeLine → r.At s.heap k → k < r.xs.size → r.it ≠ TO → r.t ≠ TO →
      (∀ h', TupO h' TO (xs.set i (r.xs.getD k .none)) → r.At h' (k + 1) → (∀ b o, b ≠ TO → b ≠ r.it → s.heap.get? b = some o → h'.get? b = some o) → h'.objs.size = s.heap.objs.size → Q (.yield (none, ())) { s with heap := h' }) → wpAny (model P w) A (body (.ref r.it, i) (none, ())) Q E s) :
    ∀ (R : List Zr) (i : Nat) (xs : List Value) (s : Shared) (Q : Option Fin × Unit → Shared → Prop), (R.map Zr.it).Nodup → TupO s.heap TO xs → xs.length ≤ sizeLine → xs.length = i + R.length → (∀ r ∈ R, r.At s.heap k) → (∀ r ∈ R, k < r.xs.size) → (∀ r ∈ R, r.it ≠ TO ∧ r.t ≠ TO) →
      (∀ h', TupO h' TO (xs.take i ++ R.map (fun r => r.xs.getD k .none)) → (∀ r ∈ R, r.At h' (k + 1)) → (∀ b o, b ≠ TO → b ∉ R.map Zr.it → s.heap.get? b = some o → h'.get? b = some o) → h'.objs.size = s.heap.objs.size → Q (none, ()) { s with heap := h' }) →
      wpAny (model P w) A (forIn ((R.map fun r => Value.ref r.it).zipIdx i) (none, ()) body) Q E s
  | [], i, xs, s, Q, _, to, _, l, _, _, _, q => by
    rw [List.map_nil, List.zipIdx_nil, List.forIn_nil]
    refine wpAny_pure (q s.heap ?_ (fun r h => nomatch h) (fun b o _ _ e => e) rfl)
    rw [List.map_nil, List.append_nil, List.take_of_length_le (by simp at l; omega)]
    exact to
  | r :: R, i, xs, s, Q, nd, to, zb, l, at', lt, ne, q => by
    rw [List.map_cons, List.zipIdx_cons, List.forIn_cons]
    obtain ⟨n1, n2⟩ := List.nodup_cons.mp nd
    have a0 := at' r List.mem_cons_self
    obtain ⟨m1, m2⟩ := ne r List.mem_cons_self
    refine wpAny_bind (hb r i xs s _ to zb a0 (lt r List.mem_cons_self) m1 m2 fun h1 to1 r1 k1 z1 => ?_)
    refine draw_into hb R (i + 1) _ _ Q n2 to1 (by rw [List.length_set]; exact zb) (by rw [List.length_set, l, List.length_cons]; omega) (fun p hp => ?_) (fun p hp => lt p (List.mem_cons_of_mem _ hp)) (fun p hp => ne p (List.mem_cons_of_mem _ hp)) fun h' to' at2 kp sz => ?_
    · have np : p.it ≠ r.it := fun e => n1 (List.mem_map.mpr ⟨p, hp, e⟩)
      obtain ⟨e1, e2⟩ := ne p (List.mem_cons_of_mem _ hp)
      exact (at' p (List.mem_cons_of_mem _ hp)).keep (fun o e => k1 _ o e1 np e) fun o e => k1 _ o e2 ((at' p (List.mem_cons_of_mem _ hp)).tne a0) e
    · refine q h' ?_ (fun p hp => ?_) (fun b o hb0 hb e => ?_) (by rw [sz, z1])
      · have e : (xs.set i (r.xs.getD k .none)).take (i + 1) = xs.take i ++ [r.xs.getD k .none] := by
          have hi : i < xs.length := by rw [l, List.length_cons]; omega
          rw [List.take_set, List.take_add_one, List.getElem?_eq_getElem hi]
          rw [List.set_append_right _ _ (by rw [List.length_take]; omega), List.length_take, Nat.min_eq_left (by omega), Nat.sub_self]
          rfl
        rw [e, List.append_assoc] at to'
        exact to'
      · rcases List.mem_cons.mp hp with z | z
        · rw [z]
          refine r1.keep (fun o e => kp _ o m1 n1 e) fun o e => kp _ o m2 (fun m => ?_) e
          obtain ⟨p, hp, e⟩ := List.mem_map.mp m
          exact a0.tne (at' p (List.mem_cons_of_mem _ hp)) e.symm
        · exact at2 p z
      · rw [List.map_cons, List.mem_cons, not_or] at hb
        exact kp b o hb0 hb.2 (k1 b o hb0 hb.1 e)
/-- what the zip object, its iterators and its own tuple are -/
structure ZipSt (h : Heap) (z TI TO : Addr) (R : List (Addr × Addr)) (k : Nat) : Prop where
  ti : TupO h TI (R.map fun r => Value.ref r.1)
  to : ∃ xs, TupO h TO xs ∧ xs.length = R.length
  at' : ∀ r ∈ R, h.IsTupleIter r.1 r.2 k
  nd : (R.map (·.1)).Nodup
  zTI : TI ≠ z
  zTO : TO ≠ z
  TT : TI ≠ TO
  sep : ∀ r ∈ R, (r.1 ≠ z ∧ r.1 ≠ TI ∧ r.1 ≠ TO) ∧ r.2 ≠ z ∧ r.2 ≠ TO
  zo : ∃ f0 f1, ZipO h z TI TO f0 f1 ∧ (f0 = .none ∨ ∃ T : Addr, f0 = rawInt T)
def Zr.key (r : Zr) : Addr × Addr := (r.it, r.t)
theorem ndi {R : List Zr} {b : Addr} (h : ∀ r ∈ R, r.it ≠ b) : b ∉ R.map Zr.it := fun m => by
  obtain ⟨r, hr, e⟩ := List.mem_map.mp m
  exact h r hr e
/-- is the owned tuple free? -/
theorem owned_any {z TI TO : Addr} {Q : Bool → Shared → Prop} {f0 f1 : Value} (hz : ZipO s.heap z TI TO f0 f1) (hf : f0 = .none ∨ ∃ T : Addr, f0 = rawInt T) (yes : Q true s) (no : ∀ h1 f2, Heap.SameBut z s.heap h1 → ZipO h1 z TI TO f0 f2 → Q false { s with heap := h1 }) :
    wpAny (model P w) A (Builtin.SmallTypes.ownedTupleIsFree (.ref z)) Q E s := by
  unfold Builtin.SmallTypes.ownedTupleIsFree
  rcases hf with rfl | ⟨T, rfl⟩
  · exact wpAny_bind (wpAny_field hz rfl (x := .none) rfl (wpAny_pure yes))
  refine wpAny_bind (wpAny_field hz rfl (x := rawInt T) rfl ?_)
  show wpAny _ _ (loadIfAlive ((T : Int).toNat) >>= _) _ _ _
  rw [Int.toNat_natCast]
  cases hT : s.heap.get? T with
  | none =>
    have e : wpAny (model P w) A (loadIfAlive T) (fun r s' => r = none ∧ s' = s) E s := fun _ _ _ => ⟨hT, rfl⟩
    refine wpAny_bind (wpAny_mono e (fun r s' hr => ?_) fun _ _ x => x)
    obtain ⟨rfl, rfl⟩ := hr
    simp only [Option.isNone_none, if_true]
    exact wpAny_pure yes
  | some o =>
    refine wpAny_bind (PySem.W.kdx_alive hT ?_)
    simp only [Option.isNone_some, Bool.false_eq_true, if_false]
    refine wpAny_bind (wpAny_field hz rfl (x := f1) rfl ?_)
    by_cases e : (f1 != Value.bool true) = true
    · refine wp_if_pos e ?_
      refine wpAny_bind (wpAny_setField_rec hz (by simp) fun h1 hz1 sb => ?_)
      try refine wpAny_bind (wpAny_pure ?_)
      exact wpAny_pure (no h1 _ sb hz1)
    · refine wp_if_neg e ?_
      try refine wpAny_bind (wpAny_pure ?_)
      exact wpAny_pure (no s.heap f1 (Heap.SameBut.refl _ _) hz)
section
variable {z TI TO : Addr} {R : List Zr} {k : Nat}
theorem ZipSt.atz {h : Heap} (S : ZipSt h z TI TO (R.map Zr.key) k) (ht : ∀ r ∈ R, h.IsTuple r.t r.xs) : ∀ r ∈ R, r.At h k := fun r hr => ⟨S.at' r.key (List.mem_map.mpr ⟨r, hr, rfl⟩), ht r hr⟩
theorem ZipSt.sepz {h : Heap} (S : ZipSt h z TI TO (R.map Zr.key) k) : ∀ r ∈ R, (r.it ≠ z ∧ r.it ≠ TI ∧ r.it ≠ TO) ∧ r.t ≠ z ∧ r.t ≠ TO := fun r hr => S.sep r.key (List.mem_map.mpr ⟨r, hr, rfl⟩)
theorem key_it (R : List Zr) : (R.map Zr.key).map (·.1) = R.map Zr.it := by rw [List.map_map]; rfl
theorem key_ref (R : List Zr) : ((R.map Zr.key).map fun r => Value.ref r.1) = R.map fun r => Value.ref r.it := by rw [List.map_map]; rfl
theorem ZipSt.mk' {h : Heap} (S0 : ∃ h0 j, ZipSt h0 z TI TO (R.map Zr.key) j) (ti : TupO h TI (R.map fun r => Value.ref r.it)) (to : ∃ xs, TupO h TO xs ∧ xs.length = R.length) (at' : ∀ r ∈ R, r.At h k) (zo : ∃ f0 f1, ZipO h z TI TO f0 f1 ∧ (f0 = .none ∨ ∃ T : Addr, f0 = rawInt T)) : ZipSt h z TI TO (R.map Zr.key) k := by
  obtain ⟨h0, j, S⟩ := S0
  refine ⟨by rw [key_ref]; exact ti, by rw [List.length_map]; exact to, fun r hr => ?_, S.nd, S.zTI, S.zTO, S.TT, S.sep, zo⟩
  obtain ⟨q, hq, rfl⟩ := List.mem_map.mp hr
  exact (at' q hq).1
/-- one row -/
theorem zip_item {Q : Value → Shared → Prop} (S : ZipSt s.heap z TI TO (R.map Zr.key) k) (ht : ∀ r ∈ R, s.heap.IsTuple r.t r.xs) (h0 : R ≠ []) (lt : ∀ r ∈ R, k < r.xs.size) (S_small : R.length ≤ sizeLine)
    (hQ : ∀ h' T, ZipSt h' z TI TO (R.map Zr.key) (k + 1) → TupO h' T (R.map fun r => r.xs.getD k .none) → s.heap.objs.size ≤ T → (∀ b o, b ≠ z → b ≠ TO → b ∉ R.map Zr.it → s.heap.get? b = some o → h'.get? b = some o) → Q (.ref T) { s with heap := h' }) :
    wpAny (model P w) A (Builtin.«zip.__next__» ⟨[.ref z], []⟩) (fun fin s' => ∃ v, fin = .done (.ret v) ∧ Q v s') E s := by
  have S0 : ∃ h0 j, ZipSt h0 z TI TO (R.map Zr.key) j := ⟨_, _, S⟩
  have at' := S.atz ht
  have sep := S.sepz
  obtain ⟨hTI, ⟨xs, hTO, hl⟩, _, nd, zTI, zTO, TT, _, f0, f1, hz, hf⟩ := S
  rw [key_ref] at hTI
  rw [key_it] at nd
  rw [List.length_map] at hl
  show wpAny _ _ (field (.ref z) 2 >>= _) _ _ _
  refine wpAny_bind (wpAny_field hz rfl (x := .bool false) rfl ?_)
  show wpAny _ _ (field (.ref z) 3 >>= _) _ _ _
  refine wpAny_bind (wpAny_field hz rfl (x := .ref TI) rfl ?_)
  refine wpAny_bind (wpAny_seqItems hTI rfl ?_)
  have ne : ¬ ((R.map fun r => Value.ref r.it).toArray.isEmpty = true) := by
    cases R with
    | nil => exact absurd rfl h0
    | cons r R => simp
  dsimp only
  refine wp_if_neg ne ?_
  try refine wpAny_bind (wpAny_pure ?_)
  show wpAny _ _ (Builtin.SmallTypes.ownedTupleIsFree (.ref z) >>= _) _ _ _
  refine wpAny_bind (owned_any hz hf ?_ fun h1 f2 sb1 hz1 => ?_)
  · simp only [if_true]
    refine wpAny_bind (wpAny_rule ?_)
    refine wpAny_bind (wpAny_field hz rfl (x := .ref TO) rfl ?_)
    refine wpAny_bind (wpAny_setField_rec hz (by simp) fun h1 hz1 sb1 => ?_)
    replace hz1 : ZipO h1 z TI TO .ellipsis f1 := hz1
    refine wpAny_bind ?_
    have a1 : ∀ r ∈ R, r.At h1 k := fun r hr => (at' r hr).ext sb1.extBut (sep r hr).1.1 (sep r hr).2.1
    refine draw_into (k := k) (TO := TO) (fun r i xs s' Q' to' zb r0 l0 m1 m2 q => ?_) R 0 xs _ _ nd (sb1.extBut _ _ zTO hTO) (by rw [hl]; exact S_small) (by rw [hl, Nat.zero_add]) a1 lt (fun r hr => ⟨(sep r hr).1.2.2, (sep r hr).2.2⟩) fun h2 to2 at2 k2 z2 => ?_
    · dsimp only
      refine wpAny_bind (wpAny_onRaise ?_)
      show wpAny _ _ (Builtin.SmallTypes.nextOf (.ref r.it) >>= _) _ _ _
      refine wpAny_bind (PySem.wpAny_nextOf_tuple_item r0.1 r0.2 (x := r.xs.getD k .none) (by simp [Array.getD_eq_getD_getElem?, l0]) fun h3 it3 sb3 => wpAny_pure ?_)
      have to3 : TupO h3 TO xs := sb3.extBut _ _ (Ne.symm m1) to'
      refine wpAny_bind (wpAny_seqItems to3 rfl ?_)
      refine wpAny_bind (PySem.wpAny_updateSeq to3 rfl ?_ (by rw [List.size_toArray]; exact zb) (by simp; omega))
      refine wpAny_bind (wpAny_letGo (wpAny_pure ?_))
      have sb4 : Heap.SameBut TO h3 (h3.update TO (Obj.mapSeq (·.setIfInBounds i (r.xs.getD k .none)))) := Heap.SameBut.update ..
      have t3 : h3.IsTuple r.t r.xs := r0.2.extBut sb3.extBut (r0.tne r0)
      refine q _ ?_ ⟨it3.extBut sb4.extBut m1, t3.extBut sb4.extBut m2⟩ (fun b o b1 b2 e => sb4.extBut _ _ b1 (sb3.extBut _ _ b2 e)) (by rw [sb4.1, sb3.1])
      show (h3.update TO (Obj.mapSeq (·.setIfInBounds i (r.xs.getD k .none)))).get? TO = _
      rw [Heap.get?_update_self _ to3 rfl]
      simp [Obj.mapSeq]
    · rw [List.take_zero, List.nil_append] at to2
      refine wpAny_bind (wpAny_seqItems to2 rfl ?_)
      refine wpAny_bind (wpAny_newTuple ?_ (by simp; omega))
      unfold Builtin.SmallTypes.ownedTupleHandOut
      have e2 : ((R.map fun r => r.xs.getD k Value.none).toArray).toList = R.map fun r => r.xs.getD k Value.none := by simp
      have hz2 : ZipO h2 z TI TO .ellipsis f1 := k2 _ _ (Ne.symm zTO) (ndi fun r hr => (sep r hr).1.1) hz1
      have hz3 : ZipO (h2.push { cls := .type "tuple", data := .seq ((R.map fun r => r.xs.getD k Value.none).toArray).toList.toArray }) z TI TO .ellipsis f1 := Heap.get?_push_of_some _ hz2
      refine wpAny_bind ?_
      refine wpAny_bind (wpAny_setField_rec hz3 (by simp) fun h4 hz4 sb4 => ?_)
      replace hz4 : ZipO h4 z TI TO (rawInt h2.objs.size) f1 := hz4
      refine wpAny_setField_rec hz4 (by simp) fun h5 hz5 sb5 => ?_
      replace hz5 : ZipO h5 z TI TO (rawInt h2.objs.size) (.bool false) := hz5
      have zlt : z < h2.objs.size := Heap.lt_size hz2
      have up : ∀ b o, b ≠ z → h2.get? b = some o → h5.get? b = some o := fun b o hb e => sb5.extBut _ _ hb (sb4.extBut _ _ hb (Heap.get?_push_of_some _ e))
      have hT : h5.get? h2.objs.size = some { cls := .type "tuple", data := .seq ((R.map fun r => r.xs.getD k Value.none).toArray).toList.toArray } := sb5.extBut _ _ (Nat.ne_of_gt zlt) (sb4.extBut _ _ (Nat.ne_of_gt zlt) (Heap.get?_push_size _ rfl))
      refine wpAny_pure ⟨_, rfl, hQ h5 h2.objs.size (ZipSt.mk' S0 ?_ ⟨_, up _ _ zTO to2, by simp⟩ (fun r hr => (at2 r hr).keep (fun o e => up _ _ (sep r hr).1.1 e) fun o e => up _ _ (sep r hr).2.1 e) ⟨_, _, hz5, .inr ⟨_, rfl⟩⟩) ?_ ?_ fun b o b1 b2 b3 e => ?_⟩
      · exact up _ _ zTI (k2 _ _ TT (ndi fun r hr => (sep r hr).1.2.1) (sb1.extBut _ _ zTI hTI))
      · rw [e2] at hT
        exact hT
      · rw [z2]
        exact Nat.le_of_eq sb1.1.symm
      · exact up _ _ b1 (k2 _ _ b2 b3 (sb1.extBut _ _ b1 e))
  · simp only [Bool.false_eq_true, if_false]
    try refine wpAny_bind (wpAny_pure ?_)
    refine wpAny_bind ?_
    rw [← Array.forIn_toList]
    have eI : ((R.map fun r => Value.ref r.it).toArray).toList = R.map fun r => Value.ref r.it := by simp
    rw [eI]
    have a1 : ∀ r ∈ R, r.At h1 k := fun r hr => (at' r hr).ext sb1.extBut (sep r hr).1.1 (sep r hr).2.1
    refine draw_all (k := k) (fun r acc s' Q' h => ?_) R #[] _ _ nd a1 lt fun h2 acc e2 at2 k2 z2 => ?_
    · dsimp only
      refine wpAny_bind (wpAny_holding ?_)
      show wpAny _ _ (Builtin.SmallTypes.nextOf (.ref r.it) >>= _) _ _ _
      refine wpAny_bind (wpAny_mono h (fun x s'' hx => wpAny_pure (wpAny_pure hx)) fun _ _ x => x)
    · dsimp only
      have e3 : acc.toList = R.map fun r => r.xs.getD k Value.none := by rw [e2]; simp
      refine wpAny_bind (wpAny_newTuple ?_ (by rw [e3]; simp; omega))
      rw [e3]
      have hz2 : ZipO h2 z TI TO f0 f2 := k2 _ _ (ndi fun r hr => (sep r hr).1.1) hz1
      have up : ∀ b o, b ≠ z → b ∉ R.map Zr.it → s.heap.get? b = some o → (h2.push { cls := .type "tuple", data := .seq (R.map fun r => r.xs.getD k Value.none).toArray }).get? b = some o := fun b o b1 b2 e => Heap.get?_push_of_some _ (k2 _ _ b2 (sb1.extBut _ _ b1 e))
      have hz3 : ZipO (h2.push { cls := .type "tuple", data := .seq (R.map fun r => r.xs.getD k Value.none).toArray }) z TI TO f0 f2 := Heap.get?_push_of_some _ hz2
      exact wpAny_pure ⟨_, rfl, hQ _ h2.objs.size (ZipSt.mk' S0 (up _ _ zTI (ndi fun r hr => (sep r hr).1.2.1) hTI) ⟨xs, up _ _ zTO (ndi fun r hr => (sep r hr).1.2.2) hTO, hl⟩ (fun r hr => (at2 r hr).keep (fun o e => Heap.get?_push_of_some _ e) fun o e => Heap.get?_push_of_some _ e) ⟨_, _, hz3, hf⟩) (Heap.get?_push_size _ rfl) (by rw [z2]; exact Nat.le_of_eq sb1.1.symm) fun b o b1 _ b3 e => up b o b1 b3 e⟩
/-- at the end -/
theorem zip_done {Q : Fin → Shared → Prop} {r : Zr} (hh : A.handled = none) (S : ZipSt s.heap z TI TO ((r :: R).map Zr.key) k) (ht : ∀ p ∈ r :: R, s.heap.IsTuple p.t p.xs) (he : r.xs.size ≤ k)
    (hE : ∀ h' e, (∀ b o, b ≠ z → b ∉ (r :: R).map Zr.it → s.heap.get? b = some o → h'.get? b = some o) → (∃ o, h'.get? e = some o ∧ o.cls = .type "StopIteration") → E (.ref e) { s with heap := h' }) :
    wpAny (model P w) A (Builtin.«zip.__next__» ⟨[.ref z], []⟩) Q E s := by
  have at' := S.atz ht
  have sep := S.sepz
  obtain ⟨hTI, ⟨xs, hTO, hl⟩, _, nd, zTI, zTO, TT, _, f0, f1, hz, hf⟩ := S
  rw [key_ref] at hTI
  show wpAny _ _ (field (.ref z) 2 >>= _) _ _ _
  refine wpAny_bind (wpAny_field hz rfl (x := .bool false) rfl ?_)
  show wpAny _ _ (field (.ref z) 3 >>= _) _ _ _
  refine wpAny_bind (wpAny_field hz rfl (x := .ref TI) rfl ?_)
  refine wpAny_bind (wpAny_seqItems hTI rfl ?_)
  have ne : ¬ (((r :: R).map fun r => Value.ref r.it).toArray.isEmpty = true) := by simp
  dsimp only
  refine wp_if_neg ne ?_
  try refine wpAny_bind (wpAny_pure ?_)
  show wpAny _ _ (Builtin.SmallTypes.ownedTupleIsFree (.ref z) >>= _) _ _ _
  refine wpAny_bind (owned_any hz hf ?_ fun h1 f2 sb1 hz1 => ?_)
  · simp only [if_true]
    refine wpAny_bind (wpAny_rule ?_)
    refine wpAny_bind (wpAny_field hz rfl (x := .ref TO) rfl ?_)
    refine wpAny_bind (wpAny_setField_rec hz (by simp) fun h1 hz1 sb1 => ?_)
    replace hz1 : ZipO h1 z TI TO .ellipsis f1 := hz1
    refine wpAny_bind ?_
    have a1 := (at' r List.mem_cons_self).ext sb1.extBut (sep r List.mem_cons_self).1.1 (sep r List.mem_cons_self).2.1
    rw [List.map_cons, List.zipIdx_cons, List.forIn_cons]
    refine wpAny_bind ?_
    dsimp only
    refine wpAny_bind (wpAny_onRaise ?_)
    show wpAny _ _ (Builtin.SmallTypes.nextOf (.ref r.it) >>= _) _ _ _
    refine wpAny_bind (PySem.wpAny_nextOf_tuple_end hh a1.1 a1.2 (by simp; omega) fun h2 e eb x => ?_)
    obtain ⟨oe, hoe, hce⟩ := x
    have hz2 : ZipO h2 z TI TO .ellipsis f1 := eb _ _ (Ne.symm (sep r List.mem_cons_self).1.1) hz1
    have hez : e ≠ z := fun x => by subst x; rw [hz2] at hoe; cases hoe; simp at hce
    refine wpAny_setField_rec hz2 (by simp) fun h3 _ sb3 => hE h3 e (fun b o b1 b2 q => sb3.extBut _ _ b1 (eb _ _ (fun z => b2 (by rw [z]; exact List.mem_cons_self)) (sb1.extBut _ _ b1 q))) ⟨oe, sb3.extBut _ _ hez hoe, hce⟩
  · simp only [Bool.false_eq_true, if_false]
    try refine wpAny_bind (wpAny_pure ?_)
    refine wpAny_bind ?_
    rw [← Array.forIn_toList]
    have eI : (((r :: R).map fun r => Value.ref r.it).toArray).toList = (r :: R).map fun r => Value.ref r.it := by simp
    rw [eI, List.map_cons, List.forIn_cons]
    have a1 := (at' r List.mem_cons_self).ext sb1.extBut (sep r List.mem_cons_self).1.1 (sep r List.mem_cons_self).2.1
    refine wpAny_bind ?_
    dsimp only
    refine wpAny_bind (wpAny_holding ?_)
    show wpAny _ _ (Builtin.SmallTypes.nextOf (.ref r.it) >>= _) _ _ _
    refine wpAny_bind (PySem.wpAny_nextOf_tuple_end hh a1.1 a1.2 (by simp; omega) fun h2 e eb x => ?_)
    refine hE h2 e (fun b o b1 b2 q => eb _ _ (fun z => b2 (by rw [z]; exact List.mem_cons_self)) (sb1.extBut _ _ b1 q)) x
theorem ZipSt.ty {R : List (Addr × Addr)} (S : ZipSt s.heap z TI TO R k) : s.TypeIs (.ref z) "zip" := let ⟨_, _, e, _⟩ := S.zo; ⟨_, e, rfl⟩
theorem next_zipA {Q : Option Value → Shared → Prop} (S : ZipSt s.heap z TI TO (R.map Zr.key) k) (ht : ∀ r ∈ R, s.heap.IsTuple r.t r.xs) (h0 : R ≠ []) (lt : ∀ r ∈ R, k < r.xs.size) (S_small : R.length ≤ sizeLine)
    (hQ : ∀ h' T, ZipSt h' z TI TO (R.map Zr.key) (k + 1) → TupO h' T (R.map fun r => r.xs.getD k .none) → s.heap.objs.size ≤ T → (∀ b o, b ≠ z → b ≠ TO → b ∉ R.map Zr.it → s.heap.get? b = some o → h'.get? b = some o) → Q (some (.ref T)) { s with heap := h' }) :
    wpAny (model P w) A (pyNext (.ref z)) Q E s := by
  unfold pyNext
  exact wpAny_bind (wpAny_attempt (wpAny_callSpecial?_slot (name := Str.ofString "__next__") S.ty F.slot_zip_next (wpAny_call_entry F.slot_zip_next S.ty F.entry_zip_next (zip_item S ht h0 lt S_small fun h' T S' t l kp => wpAny_pure (hQ h' T S' t l kp)) (F.args_zip_next_1 _))))
theorem done_zipA {Q : Option Value → Shared → Prop} {r : Zr} (hh : A.handled = none) (S : ZipSt s.heap z TI TO ((r :: R).map Zr.key) k) (ht : ∀ p ∈ r :: R, s.heap.IsTuple p.t p.xs) (he : r.xs.size ≤ k) (hQ : ∀ h', (∀ b o, b ≠ z → b ∉ (r :: R).map Zr.it → s.heap.get? b = some o → h'.get? b = some o) → Q none { s with heap := h' }) :
    wpAny (model P w) A (pyNext (.ref z)) Q E s := by
  unfold pyNext
  refine wpAny_bind (wpAny_attempt (wpAny_callSpecial?_slot (name := Str.ofString "__next__") S.ty F.slot_zip_next (wpAny_call_entry F.slot_zip_next S.ty F.entry_zip_next (zip_done (by simp [hh]) S ht he fun h' e kp x => ?_) (F.args_zip_next_1 _))))
  obtain ⟨o, ho, hc⟩ := x
  refine wpAny_bind (wpAny_isInstance (T := "StopIteration") (b := true) ⟨o, ho, hc⟩ isSubtype_stop ?_)
  exact wpAny_pure (hQ _ kp)
end
end
end J
/-! zip( *rows), rows of tuples, one to six of them. -/
namespace J
section
open PySem PySem.Spec PyProof.Rows L2
theorem tyc_zip : ∀ us : List Value, us.length ≤ 6 → checkTypeCall "zip" ⟨us, []⟩ = pure ()
  | [], _ => by kernel_rfl
  | [_], _ => by kernel_rfl
  | [_, _], _ => by kernel_rfl
  | [_, _, _], _ => by kernel_rfl
  | [_, _, _, _], _ => by kernel_rfl
  | [_, _, _, _, _], _ => by kernel_rfl
  | [_, _, _, _, _, _], _ => by kernel_rfl
  | _ :: _ :: _ :: _ :: _ :: _ :: _ :: _, h => by simp at h
theorem nwc_zip : ∀ us : List Value, us.length ≤ 6 → checkBuiltinCall "zip.__new__" ⟨.type "zip" :: us, []⟩ = pure ()
  | [], _ => by kernel_rfl
  | [_], _ => by kernel_rfl
  | [_, _], _ => by kernel_rfl
  | [_, _, _], _ => by kernel_rfl
  | [_, _, _, _], _ => by kernel_rfl
  | [_, _, _, _, _], _ => by kernel_rfl
  | [_, _, _, _, _, _], _ => by kernel_rfl
  | _ :: _ :: _ :: _ :: _ :: _ :: _ :: _, h => by simp at h
theorem oin_zip (o : Value) : ∀ us : List Value, us.length ≤ 6 → argsOk "object.__init__" ⟨o :: us, []⟩ := fun us h => by
  unfold argsOk
  rw [signature?_of (id := "object.__init__") (n := ['_', '_', 't', 'i', 'n', 'i', '_', '_']) (o := ['t', 'c', 'e', 'j', 'b', 'o']) (by kernel_rfl) F.owner_object]
  match us, h with
  | [], _ => kernel_rfl
  | [_], _ => kernel_rfl
  | [_, _], _ => kernel_rfl
  | [_, _, _], _ => kernel_rfl
  | [_, _, _, _], _ => kernel_rfl
  | [_, _, _, _, _], _ => kernel_rfl
  | [_, _, _, _, _, _], _ => kernel_rfl
  | _ :: _ :: _ :: _ :: _ :: _ :: _ :: _, h => simp at h
/-- tuples, by address and items -/
abbrev TupsAt (h : Heap) (ts : List (Addr × Array Value)) : Prop := ∀ p ∈ ts, h.IsTuple p.1 p.2
section
variable {P : Program} {w : World} {A : Around} {E : Value → Shared → Prop} {s : Shared}
theorem iters_all {body : Value → Array Value → Sem (ForInStep (Array Value))} (hb : ∀ (t : Addr) acc (s : Shared) (Q : ForInStep (Array Value) → Shared → Prop), wpAny (model P w) A (pyIter (.ref t)) (fun x s' => Q (.yield (acc.push x)) s') E s → wpAny (model P w) A (body (.ref t) acc) Q E s) :
    ∀ (ts : List (Addr × Array Value)) (acc : Array Value) (s : Shared) (Q : Array Value → Shared → Prop), TupsAt s.heap ts →
      (∀ h' (R : List Zr) acc', R.map (fun r => (r.t, r.xs)) = ts → acc'.toList = acc.toList ++ R.map (fun r => Value.ref r.it) → (∀ r ∈ R, r.At h' 0) → (R.map Zr.it).Nodup → (∀ r ∈ R, s.heap.objs.size ≤ r.it) → (∀ b o, s.heap.get? b = some o → h'.get? b = some o) → s.heap.objs.size ≤ h'.objs.size → Q acc' { s with heap := h' }) →
      wpAny (model P w) A (forIn (ts.map fun p => Value.ref p.1) acc body) Q E s
  | [], acc, s, Q, _, q => by
    rw [List.map_nil, List.forIn_nil]
    exact wpAny_pure (q s.heap [] acc rfl (by simp) (fun r h => nomatch h) (by simp) (fun r h => nomatch h) (fun b o e => e) (Nat.le_refl _))
  | p :: ts, acc, s, Q, at', q => by
    rw [List.map_cons, List.forIn_cons]
    have t0 := at' p List.mem_cons_self
    refine wpAny_bind (hb p.1 acc s _ (wpAny_pyIter_tuple t0 ?_))
    have kp : ∀ b o, s.heap.get? b = some o → (s.heap.push { cls := .type "tuple_iterator", data := .fields #[.ref p.1, .int 0 0] }).get? b = some o := fun b o e => Heap.get?_push_of_some _ e
    have hz : (s.heap.push { cls := .type "tuple_iterator", data := .fields #[.ref p.1, .int 0 0] }).objs.size = s.heap.objs.size + 1 := Heap.size_push ..
    refine iters_all hb ts _ _ Q (fun x hx => (at' x (List.mem_cons_of_mem _ hx)).push _) fun h' R acc' e1 e2 a2 nd ge k2 sz => ?_
    have it0 : (s.heap.push { cls := .type "tuple_iterator", data := .fields #[.ref p.1, .int 0 0] }).IsTupleIter s.heap.objs.size p.1 0 := ⟨_, Heap.get?_push_size _ rfl, rfl, rfl⟩
    refine q h' (⟨s.heap.objs.size, p.1, p.2⟩ :: R) acc' (by rw [List.map_cons, e1]) (by rw [e2]; simp) (fun r hr => ?_) ?_ (fun r hr => ?_) (fun b o e => k2 b o (kp b o e)) (Nat.le_trans (Nat.le_trans (Nat.le_succ _) (Nat.le_of_eq hz.symm)) sz)
    · rcases List.mem_cons.mp hr with z | z
      · rw [z]
        exact ⟨it0.at fun o e => k2 _ _ e, (t0.push _).at fun o e => k2 _ _ e⟩
      · exact a2 r z
    · rw [List.map_cons, List.nodup_cons]
      refine ⟨fun m => ?_, nd⟩
      obtain ⟨r, hr, e⟩ := List.mem_map.mp m
      have g := ge r hr
      rw [hz, e] at g
      exact absurd g (Nat.not_succ_le_self _)
    · rcases List.mem_cons.mp hr with z | z
      · rw [z]
        exact Nat.le_refl _
      · have g := ge r z
        rw [hz] at g
        exact Nat.le_of_succ_le g
theorem zip_made {h' : Heap} {Rz : List Zr} (h1 : Heap) (e1 : h1 = h'.push { cls := .type "tuple", data := .seq (Rz.map fun r => Value.ref r.it).toArray }) (h2 : Heap) (e2 : h2 = h1.push { cls := .type "tuple", data := .seq (List.map (fun x => Value.none) (List.map (fun r => Value.ref r.it) Rz)).toArray })
    (a2 : ∀ r ∈ Rz, r.At h' 0) (nd : (Rz.map Zr.it).Nodup) : ZipSt (h2.push { cls := .type "zip", data := .fields #[.none, .bool false, .bool false, .ref h'.objs.size, .ref h1.objs.size] }) h2.objs.size h'.objs.size h1.objs.size (Rz.map Zr.key) 0 := by
  have z1 : h1.objs.size = h'.objs.size + 1 := by rw [e1, size_push']
  have z2 : h2.objs.size = h'.objs.size + 2 := by rw [e2, size_push', z1]
  have kp : ∀ b o, h'.get? b = some o → (h2.push { cls := .type "zip", data := .fields #[.none, .bool false, .bool false, .ref h'.objs.size, .ref h1.objs.size] }).get? b = some o := fun b o e => by
    refine Heap.get?_push_of_some _ ?_
    rw [e2]
    refine Heap.get?_push_of_some _ ?_
    rw [e1]
    exact Heap.get?_push_of_some _ e
  have lt1 : ∀ r ∈ Rz, r.it < h'.objs.size := fun r hr => by
    obtain ⟨o, ho, _⟩ := (a2 r hr).1
    exact Heap.lt_size ho
  have lt2 : ∀ r ∈ Rz, r.t < h'.objs.size := fun r hr => by
    obtain ⟨o, ho, _⟩ := (a2 r hr).2
    exact Heap.lt_size ho
  have n1 : ∀ a : Nat, a < h'.objs.size → a ≠ h2.objs.size ∧ a ≠ h'.objs.size ∧ a ≠ h1.objs.size := fun a ha => by
    rw [z1, z2]
    omega
  refine ⟨?_, ⟨(List.map (fun x => Value.none) (List.map (fun r => Value.ref r.it) Rz)), ?_, by simp⟩, fun r hr => ?_, by rw [key_it]; exact nd, ?_, ?_, ?_, fun r hr => ?_, ⟨_, _, Heap.get?_push_size _ rfl, .inl rfl⟩⟩
  · rw [key_ref]
    refine Heap.get?_push_of_some _ ?_
    rw [e2]
    refine Heap.get?_push_of_some _ ?_
    rw [e1]
    exact Heap.get?_push_size _ rfl
  · refine Heap.get?_push_of_some _ ?_
    rw [e2]
    exact Heap.get?_push_size _ rfl
  · obtain ⟨q, hq, rfl⟩ := List.mem_map.mp hr
    exact ((a2 q hq).keep (fun o e => kp _ _ e) fun o e => kp _ _ e).1
  · rw [z2]
    exact Nat.ne_of_lt (by exact Nat.lt_add_of_pos_right (by decide))
  · rw [z1, z2]
    exact Nat.ne_of_lt (by exact Nat.lt_succ_self _)
  · rw [z1]
    exact Nat.ne_of_lt (Nat.lt_succ_self _)
  · obtain ⟨q, hq, rfl⟩ := List.mem_map.mp hr
    exact ⟨n1 _ (lt1 q hq), (n1 _ (lt2 q hq)).1, (n1 _ (lt2 q hq)).2.2⟩
theorem mz_new (ts : List (Addr × Array Value)) (hl : ts.length ≤ 6) :
    Meets (Builtin.«zip.__new__» ⟨.type "zip" :: ts.map (fun p => Value.ref p.1), []⟩) (fun _ R s => TupsAt s.heap ts ∧
      ∀ h' z TI TO (Rz : List Zr), Rz.map (fun r => (r.t, r.xs)) = ts → ZipSt h' z TI TO (Rz.map Zr.key) 0 → (∀ b o, s.heap.get? b = some o → h'.get? b = some o) → (s.heap.objs.size ≤ z ∧ s.heap.objs.size ≤ TI ∧ s.heap.objs.size ≤ TO ∧ ∀ r ∈ Rz, s.heap.objs.size ≤ r.it) → R (.ok (.ret (.ref z))) { s with heap := h' }) :=
  .of_wp fun prog w A R s h => by
    obtain ⟨hp, g, d, tk, os⟩ := s
    obtain ⟨ht, q⟩ := h
    have hsub := sub_zip
    unfold Builtin.«zip.__new__» Builtin.SmallTypes.newClass
    generalize hIA : Builtin.SmallTypes.iterAll = IA
    wp_walk
    subst hIA
    unfold Builtin.SmallTypes.iterAll
    refine wpAny_bind ?_
    refine iters_all (fun t acc s Q h => wpAny_bind (wpAny_holding (wpAny_mono h (fun x s' hx => wpAny_pure hx) fun _ _ x => x))) ts #[] _ _ ht fun h' Rz acc e1 e2 a2 nd ge kp sz => ?_
    refine wpAny_pure ?_
    have e3 : acc.toList = Rz.map fun r => Value.ref r.it := by rw [e2]; simp
    have len : Rz.length = ts.length := by rw [← e1, List.length_map]
    dsimp only
    rw [e3]
    refine wpAny_bind (wpAny_newTuple ?_ (by rw [List.length_map, len, sizeLine_eq]; omega))
    refine wpAny_bind (wpAny_newTuple ?_ (by rw [List.length_map, List.length_map, len, sizeLine_eq]; omega))
    unfold Builtin.SmallTypes.newRecord
    refine wpAny_bind (wpAny_newObj_type ?_ (by simp only [sizeOk, Builtin.SmallTypes.ownedTupleFields, List.size_toArray, List.length_append, List.length_cons, List.length_nil, sizeLine_eq]; omega))
    refine wpAny_pure ⟨_, rfl, ?_⟩
    have zz := zip_made (Rz := Rz) (h' := h') (Heap.push h' { cls := .type "tuple", data := .seq (Rz.map fun r => Value.ref r.it).toArray }) rfl (Heap.push (Heap.push h' { cls := .type "tuple", data := .seq (Rz.map fun r => Value.ref r.it).toArray }) { cls := .type "tuple", data := .seq (List.map (fun x => Value.none) (List.map (fun r => Value.ref r.it) Rz)).toArray }) rfl a2 nd
    refine q _ _ _ _ Rz e1 zz (fun b o e => Heap.get?_push_of_some _ (Heap.get?_push_of_some _ (Heap.get?_push_of_some _ (kp b o e)))) ⟨?_, sz, ?_, ge⟩
    · show hp.objs.size ≤ (Heap.push (Heap.push h' _) _).objs.size
      rw [size_push', size_push']
      exact Nat.le_trans sz (Nat.le_add_right _ 2)
    · show hp.objs.size ≤ (Heap.push h' _).objs.size
      rw [size_push']
      exact Nat.le_trans sz (Nat.le_add_right _ 1)
theorem call_zipA {ts : List (Addr × Array Value)} {Q : Value → Shared → Prop} (hl : ts.length ≤ 6) (ht : TupsAt s.heap ts)
    (hQ : ∀ h' z TI TO (Rz : List Zr), Rz.map (fun r => (r.t, r.xs)) = ts → ZipSt h' z TI TO (Rz.map Zr.key) 0 → (∀ b o, s.heap.get? b = some o → h'.get? b = some o) → (s.heap.objs.size ≤ z ∧ s.heap.objs.size ≤ TI ∧ s.heap.objs.size ≤ TO ∧ ∀ r ∈ Rz, s.heap.objs.size ≤ r.it) → Q (.ref z) { s with heap := h' }) :
    wpAny (model P w) A (call (.type "zip") (ts.map fun p => Value.ref p.1)) Q E s :=
  callType_new F.called_zip (by decide) (tyc_zip _ (by rw [List.length_map]; exact hl)) (nwc_zip _ (by rw [List.length_map]; exact hl)) (fun obj => oin_zip obj _ (by rw [List.length_map]; exact hl)) F.entry_zip_new (mz_new ts hl)
    ⟨ht, fun h' z TI TO Rz e S kp ge => ⟨S.ty (s := { s with heap := h' }), hQ h' z TI TO Rz e S kp ge⟩⟩
end
end
/-! ### as an iterator of the layer -/
section
open PySem PySem.Spec L2
abbrev RowsT (K : PySem.W.Frag) (H : Hp) (ts : List Addr) (xss : List (List V)) : Prop := All2 (fun t xs => SqT K H t xs) ts xss
def ItzA (K : PySem.W.Frag) (ts : List Addr) : It :=
  ⟨fun i H => ∃ xss, RowsT K H ts xss ∧ ∀ xs ∈ xss, i < xs.length,
   fun i H v H' => ∃ T ys, v = .ref T ∧ H T = none ∧ H' = upd H T (.tup ys) ∧ ∀ xss, RowsT K H ts xss → ys = xss.map fun xs => xs.getD i .non,
   fun i H => ∃ xs xss, RowsT K H ts (xs :: xss) ∧ xs.length ≤ i⟩
theorem rows_its {X : Cx} {pins : List (Addr × Obj)} {σ : L2.St} {H : Hp} {s : Shared} (I : L2.Inv X pins σ H s) : ∀ {R : List (Addr × Addr)} {xss : List (List V)}, RowsT X.K H (R.map (·.2)) xss → ∃ Rz : List Zr, Rz.map Zr.key = R ∧ (∀ r ∈ Rz, s.heap.IsTuple r.t r.xs) ∧ All2 (fun (r : Zr) xs => Vals xs r.xs.toList) Rz xss
  | [], xss, h => by
    cases h
    exact ⟨[], rfl, (fun r z => nomatch z), .nil⟩
  | p :: R, xss, h => by
    rw [List.map_cons] at h
    cases h with
    | cons q t =>
      obtain ⟨Rz, h1, h2, h3⟩ := rows_its I t
      obtain ⟨its, rv, pl, _⟩ := I.tuple q
      refine ⟨⟨p.1, p.2, its.toArray⟩ :: Rz, by rw [List.map_cons, h1]; rfl, fun r hr => ?_, .cons (by simpa using rv) h3⟩
      rcases List.mem_cons.mp hr with z | z
      · rw [z]
        exact pl
      · exact h2 r z
theorem col_vals {i : Nat} : ∀ {Rz : List Zr} {xss : List (List V)}, All2 (fun (r : Zr) xs => Vals xs r.xs.toList) Rz xss → (∀ xs ∈ xss, i < xs.length) → Vals (xss.map fun xs => xs.getD i .non) (Rz.map fun r => r.xs.getD i .none) ∧ ∀ r ∈ Rz, i < r.xs.size
  | _, _, .nil, _ => ⟨.nil, fun r z => (nomatch z)⟩
  | _, _, .cons (a := r) (b := xs) q t, h => by
    obtain ⟨h1, h2⟩ := col_vals t fun ys hy => h ys (List.mem_cons_of_mem _ hy)
    have lt := h xs List.mem_cons_self
    have len : xs.length = r.xs.size := by rw [q.length, Array.length_toList]
    obtain ⟨u, hu, ru⟩ := q.get (List.getElem?_eq_getElem lt)
    refine ⟨.cons ?_ h1, fun p hp => ?_⟩
    · have e1 : xs.getD i .non = xs[i] := by rw [List.getD_eq_getElem?_getD, List.getElem?_eq_getElem lt]; rfl
      have e2 : r.xs.getD i .none = u := by
        rw [Array.getElem?_toList] at hu
        simp [Array.getD_eq_getD_getElem?, hu]
      show RelV (xs.getD i .non) (r.xs.getD i .none)
      rw [e1, e2]
      exact ru
    · rcases List.mem_cons.mp hp with z | z
      · rw [z, ← len]
        exact lt
      · exact h2 p z
theorem rows_one {X : Cx} {pins : List (Addr × Obj)} {σ : L2.St} {H : Hp} {s : Shared} (I : L2.Inv X pins σ H s) : ∀ {ts : List Addr} {xss yss : List (List V)}, RowsT X.K H ts xss → RowsT X.K H ts yss → xss = yss
  | _, _, _, .nil, .nil => rfl
  | _, _, _, .cons a t, .cons b u => by rw [I.tuple_inj a b, rows_one I t u]
theorem turn_zipA {P : Program} {w : World} {K : PySem.W.Frag} {x : Str} {tp : Pos} {z TI TO : Addr} {R : List (Addr × Addr)} (h0 : R ≠ []) (h6 : R.length ≤ 6) :
    Turn P w K (.Name x tp) (ItzA K (R.map (·.2))) (z :: TI :: TO :: R.map (·.1)) z (fun i h => ZipSt h z TI TO R i) where
  mem := List.mem_cons_self
  obj := fun i h S c hc => by
    rcases List.mem_cons.mp hc with q | hc
    · obtain ⟨f0, f1, e, _⟩ := S.zo
      rw [q]
      exact ⟨_, e, fun v z => nomatch z⟩
    rcases List.mem_cons.mp hc with q | hc
    · rw [q]
      exact ⟨_, S.ti, fun v z => nomatch z⟩
    rcases List.mem_cons.mp hc with q | hc
    · obtain ⟨xs, e, _⟩ := S.to
      rw [q]
      exact ⟨_, e, fun v z => nomatch z⟩
    obtain ⟨r, hr, rfl⟩ := List.mem_map.mp hc
    obtain ⟨o, e, _, d⟩ := S.at' r hr
    exact ⟨o, e, fun v q => by rw [d] at q; cases q⟩
  keep := fun i h h' S k => by
    obtain ⟨xs, e, l⟩ := S.to
    obtain ⟨f0, f1, e2, hf⟩ := S.zo
    exact ⟨k _ (by simp) _ S.ti, ⟨xs, k _ (by simp) _ e, l⟩, fun r hr => (S.at' r hr).at fun o q => k _ (List.mem_cons_of_mem _ (List.mem_cons_of_mem _ (List.mem_cons_of_mem _ (List.mem_map.mpr ⟨r, hr, rfl⟩)))) o q, S.nd, S.zTI, S.zTO, S.TT, S.sep, f0, f1, k _ (by simp) _ e2, hf⟩
  item := by
    intro X hP hw hK hc i pins s σ H E I hf S hg
    subst hP hw hK
    obtain ⟨xss, rows, lt⟩ := hg
    obtain ⟨Rz, rfl, ht, hv⟩ := rows_its I rows
    obtain ⟨cv, lz⟩ := col_vals hv lt
    have hne : Rz ≠ [] := fun e => h0 (by rw [e]; rfl)
    rw [List.length_map] at h6
    refine next_zipA S ht hne lz (by rw [sizeLine_eq]; omega) fun h' T S' hT hge kp => ?_
    refine ⟨_, rfl, wpAny_pure ?_⟩
    have new : ObjOk X.prog X.w (upd H T (.tup (xss.map fun xs => xs.getD i .non))) h' T (.tup (xss.map fun xs => xs.getD i .non)) :=
      ⟨by rw [List.length_map, ← rows.length, List.length_map, List.length_map, sizeLine_eq]; omega, Rz.map (fun r => r.xs.getD i .none), cv, ⟨_, hT, rfl, _, rfl⟩⟩
    have out : ∀ b, b ∉ z :: TI :: TO :: (Rz.map Zr.key).map (·.1) → b ≠ z ∧ b ≠ TO ∧ b ∉ Rz.map Zr.it := fun b hb => by
      simp only [List.mem_cons, not_or, key_it] at hb
      exact ⟨hb.1, hb.2.2.1, hb.2.2.2⟩
    have I1 : L2.Inv X pins σ (upd H T (.tup (xss.map fun xs => xs.getD i .non))) { s with heap := h' } :=
      I.turnedNew (t' := s.toks) (ch := z :: TI :: TO :: (Rz.map Zr.key).map (·.1)) (fun b o hb q => kp b o (out b hb).1 (out b hb).2.1 (out b hb).2.2 q) hf hge new
    refine ⟨.ref T, _, I1, rfl, ⟨T, _, rfl, I.hok.fresh hge, rfl, fun yss hy => by rw [rows_one I hy rows]⟩, S', fun b hb => ?_⟩
    have fb := (hf b hb).1
    have lb : b ≠ T := fun e => by
      obtain ⟨o, q, _⟩ := (show ∃ o, s.heap.get? b = some o ∧ True from by
        rcases List.mem_cons.mp hb with q | hb
        · obtain ⟨f0, f1, e, _⟩ := S.zo
          rw [q]
          exact ⟨_, e, True.intro⟩
        rcases List.mem_cons.mp hb with q | hb
        · rw [q]
          exact ⟨_, S.ti, True.intro⟩
        rcases List.mem_cons.mp hb with q | hb
        · obtain ⟨xs, e, _⟩ := S.to
          rw [q]
          exact ⟨_, e, True.intro⟩
        obtain ⟨r, hr, rfl⟩ := List.mem_map.mp hb
        obtain ⟨o, e, _⟩ := S.at' r hr
        exact ⟨o, e, True.intro⟩)
      rw [e] at q
      exact absurd (Nat.lt_of_lt_of_le (Heap.lt_size q) hge) (Nat.lt_irrefl _)
    rw [upd_ne lb]
    exact fb
  done := by
    intro X hP hw hK hc i pins s σ H E I hf S hg
    subst hP hw hK
    obtain ⟨xs, xss, rows, le⟩ := hg
    obtain ⟨Rz, rfl, ht, hv⟩ := rows_its I rows
    cases hv with
    | @cons r _ Rz' _ q t =>
      have len : xs.length = r.xs.size := by rw [q.length, Array.length_toList]
      refine done_zipA (I.ok.hd hc) S ht (by omega) fun h' kp => ⟨rfl, ?_⟩
      have out : ∀ b, b ∉ z :: TI :: TO :: ((r :: Rz').map Zr.key).map (·.1) → b ≠ z ∧ b ∉ (r :: Rz').map Zr.it := fun b hb => by
        rw [List.mem_cons, List.mem_cons, List.mem_cons, not_or, not_or, not_or, key_it] at hb
        exact ⟨hb.1, hb.2.2.2⟩
      exact I.turnedL (t' := s.toks) (ch := z :: TI :: TO :: ((r :: Rz').map Zr.key).map (·.1)) (fun b o hb e => kp b o (out b hb).1 (out b hb).2 e) hf
  self := fun A i s Q E S h => by
    obtain ⟨f0, f1, e, _⟩ := S.zo
    have hT : s.TypeIs (.ref z) "zip" := ⟨_, e, rfl⟩
    refine wpAny_pyIter_slot hT PySem.F.slot_zip_iter (wpAny_call_entry PySem.F.slot_zip_iter hT PySem.F.entry_zip_iter ?_ (PySem.F.args_zip_iter_1 _))
    show wpAny _ _ (ret (.ref z)) _ _ s
    exact wpAny_pure ⟨_, rfl, "zip", _, hT, PySem.F.slot_zip_next.lookup, h⟩
end
end J
/-! zip( *rows) and enumerate(tuple) walked. -/
namespace J
open PySem PySem.Spec L2
section
variable {X : Cx}
def iZs (K : PySem.W.Frag) (te : TE) : TI := fun σ H R => te σ H fun y H1 => ∃ a ts xss, y = V.ref a ∧ (SqT K H1 a (ts.map V.ref) ∨ SqL K H1 a (ts.map V.ref)) ∧ ts ≠ [] ∧ ts.length ≤ 6 ∧ RowsT K H1 ts xss ∧ R (ItzA K ts) H1
theorem tups_at {pins : List (Addr × Obj)} {σ : L2.St} {H : Hp} {s : Shared} (I : L2.Inv X pins σ H s) : ∀ {ts : List Addr} {xss : List (List V)}, RowsT X.K H ts xss → ∃ tz : List (Addr × Array Value), tz.map (·.1) = ts ∧ TupsAt s.heap tz
  | _, _, .nil => ⟨[], rfl, fun r z => nomatch z⟩
  | _, _, .cons (a := t) q r => by
    obtain ⟨tz, h1, h2⟩ := tups_at I r
    obtain ⟨its, rv, pl, _⟩ := I.tuple q
    refine ⟨(t, its.toArray) :: tz, by rw [List.map_cons, h1], fun p hp => ?_⟩
    rcases List.mem_cons.mp hp with z | z
    · rw [z]
      exact pl
    · exact h2 p z
theorem pi_zipS {e : Expr} {te : TE} {x : Str} {tp p sp_ pos : Pos} (hg : Gl X "zip") (hm : X.mg "zip" = none) (he : PE X e te) (hst : starEach [.Starred e sp_] X.env = [(true, eval e X.env)] := by rfl) :
    PI X (.Name x tp) (.Call (.Name "zip" p) [.Starred e sp_] [] pos) (iZs X.K te) := by
  refine ⟨fun pins s σ H R I h => ?_⟩
  refine PyProof.Rows.Call_ (ld_blt I hg hm PyProof.Rows.boot_zip ?_)
  rw [hst]
  refine PySem.W.ks_call (P := fun _ => True) rfl (fun _ _ => ⟨.machine, .inr (.inl rfl), PySem.W.Looks.now⟩) (PySem.W.ks_lone ?_)
  refine thn (he.run pins s σ H _ I h) fun v s1 ⟨y, H1, I1, ry, a, ts, xss, ey, hx, hne, h6, rows, q⟩ => ?_
  subst ey
  obtain rfl : v = Value.ref a := ry
  refine StX.star_any I1 hx fun us s2 I2 rv => ⟨True.intro, ?_⟩
  have eu := refs_at rv
  subst eu
  obtain ⟨tz, e1, e2⟩ := tups_at I2 rows
  have ez : ts.map Value.ref = tz.map fun p => Value.ref p.1 := by rw [← e1, List.map_map]; rfl
  show wpAny (model X.prog X.w) X.A (call (.type "zip") ([] ++ ts.map Value.ref)) _ _ s2
  rw [List.nil_append, ez]
  have hl : tz.length ≤ 6 := by rw [← List.length_map (f := (·.1)), e1]; exact h6
  refine call_zipA hl e2 fun h' z TI TO Rz eR S kp ge => ?_
  have I3 : L2.Inv X pins σ H1 { s2 with heap := h' } := I2.kept (t' := s2.toks) kp
  have eT : (Rz.map Zr.key).map (·.2) = ts := by
    rw [List.map_map, ← e1, ← eR, List.map_map]
    rfl
  have hR : Rz.map Zr.key ≠ [] := fun e => hne (by rw [← eT, e]; rfl)
  have hR6 : (Rz.map Zr.key).length ≤ 6 := by rw [← List.length_map (f := (·.2)), eT]; exact h6
  refine (turn_zipA (P := X.prog) (w := X.w) (K := X.K) (x := x) (tp := tp) (z := z) (TI := TI) (TO := TO) hR hR6).self X.A 0 _ _ _ S ?_
  refine ⟨z, z :: TI :: TO :: (Rz.map Zr.key).map (·.1), _, _, H1, rfl, I3, turn_zipA hR hR6, S, fun b hb => ?_, ?_⟩
  · have hle : s2.heap.objs.size ≤ b := by
      rcases List.mem_cons.mp hb with q | hb
      · rw [q]
        exact ge.1
      rcases List.mem_cons.mp hb with q | hb
      · rw [q]
        exact ge.2.1
      rcases List.mem_cons.mp hb with q | hb
      · rw [q]
        exact ge.2.2.1
      rw [key_it] at hb
      obtain ⟨r, hr, rfl⟩ := List.mem_map.mp hb
      exact ge.2.2.2 r hr
    exact I2.fpOk hle (I2.hok.fresh hle)
  · rw [eT]
    exact q
end
section
variable {X : Cx} {δ δ1 : DSt} {e : Expr} {tg : Expr}
/-- the columns of rows of one length -/
def cols (rows : List (List PyData)) (n : Nat) : List (List PyData) := (List.range n).map fun i => rows.map fun r => r.getD i .none
theorem rows_dd {B : Hp} : ∀ {vs : List V} {rows : List (List PyData)}, DdAll B vs (rows.map .tuple) → ∃ (ts : List Addr) (xss : List (List V)), vs = ts.map V.ref ∧ All2 (fun t xs => B t = some (.tup xs)) ts xss ∧ All2 (fun xs (r : List PyData) => DdAll B xs r) xss rows
  | [], [], _ => ⟨[], [], rfl, .nil, .nil⟩
  | [], _ :: _, h => by cases h
  | _ :: _, [], h => by cases h
  | v :: vs, r :: rows, h => by
    cases h with
    | cons a t =>
      obtain ⟨ts, xss, h1, h2, h3⟩ := rows_dd t
      obtain ⟨q, xs, rfl, e2, _, e3⟩ := Dd.tup_eq a
      exact ⟨q :: ts, xs :: xss, by rw [h1]; rfl, .cons e2 h2, .cons e3 h3⟩
theorem rows_t {K : PySem.W.Frag} {B H : Hp} (s : Same B H) {ts : List Addr} {xss : List (List V)} (h : All2 (fun t xs => B t = some (.tup xs)) ts xss) : RowsT K H ts xss := h.imp fun a b q => SqT.of (s _ _ q)
theorem rows_eqK {K : PySem.W.Frag} {B H : Hp} (s : Same B H) : ∀ {ts : List Addr} {xss : List (List V)}, All2 (fun t xs => B t = some (.tup xs)) ts xss → RowsT K H ts xss
  | _, _, h => rows_t s h
theorem dd_getD {B : Hp} : ∀ {xs : List V} {r : List PyData} (i : Nat), DdAll B xs r → Dd B (xs.getD i .non) (r.getD i .none)
  | _, _, _, .nil => .non
  | _, _, 0, .cons a _ => a
  | _, _, i + 1, .cons _ t => by
    rw [List.getD_cons_succ, List.getD_cons_succ]
    exact dd_getD i t
theorem dd_col {B : Hp} (i : Nat) : ∀ {xss : List (List V)} {rows : List (List PyData)}, All2 (fun xs (r : List PyData) => DdAll B xs r) xss rows → DdAll B (xss.map fun xs => xs.getD i .non) (rows.map fun r => r.getD i .none)
  | _, _, .nil => .nil
  | _, _, .cons a t => .cons (dd_getD i a) (dd_col i t)
theorem walks_zipS {K : PySem.W.Frag} {B : Hp} {ts : List Addr} {xss : List (List V)} {rows : List (List PyData)} {n : Nat} (h : All2 (fun t xs => B t = some (.tup xs)) ts xss) (d : All2 (fun xs (r : List PyData) => DdAll B xs r) xss rows) (hl : ∀ r ∈ rows, r.length = n) (hn : rows ≠ []) (h6 : rows.length ≤ 6) :
    Walks (ItzA K ts) B ((cols rows n).map fun c => aD (.tuple c)) := fun i B1 H1 s s' => by
  have hx : ∀ xs ∈ xss, xs.length = n := by
    have all : ∀ {xss : List (List V)} {rows : List (List PyData)}, All2 (fun xs (r : List PyData) => DdAll B xs r) xss rows → (∀ r ∈ rows, r.length = n) → ∀ xs ∈ xss, xs.length = n := by
      intro xss rows q
      induction q with
      | nil => exact fun _ xs z => nomatch z
      | cons a t ih =>
        intro hr xs hxs
        rcases List.mem_cons.mp hxs with z | z
        · rw [z, a.len]
          exact hr _ List.mem_cons_self
        · exact ih (fun r hr' => hr r (List.mem_cons_of_mem _ hr')) xs z
    exact all d hl
  have rw1 : RowsT K H1 ts xss := rows_t (s.trans s') h
  have len : ((cols rows n).map fun c => aD (.tuple c)).length = n := by unfold cols; rw [List.length_map, List.length_map, List.length_range]
  refine ⟨fun hi => ?_, fun A hA => ?_⟩
  · rw [len] at hi
    cases xss with
    | nil => exact absurd (List.eq_nil_of_length_eq_zero (by rw [← d.length]; rfl)) hn
    | cons xs xss => exact ⟨xs, xss, rw1, by rw [hx xs List.mem_cons_self]; exact hi⟩
  · have hi : i < n := by
      have := (List.getElem?_eq_some_iff.mp hA).1
      rw [len] at this
      exact this
    have eA : A = aD (.tuple (rows.map fun r => r.getD i .none)) := by
      unfold cols at hA
      rw [List.map_map, List.getElem?_map, List.getElem?_range hi] at hA
      cases hA
      rfl
    refine ⟨⟨xss, rw1, fun xs hxs => by rw [hx xs hxs]; exact hi⟩, fun y H2 ⟨T, ys, ey, hT, e2, f⟩ => .inr ⟨T, .tup ys, hT, e2, ?_⟩⟩
    rw [eA, ey, f xss rw1]
    have sB : Same B (upd B1 T (.tup (xss.map fun xs => xs.getD i .non))) := s.trans (same_upd (s'.free hT))
    exact .tup upd_same (small (by rw [List.length_map]; omega)) (DdAll.mono sB _ _ (dd_col i d))
theorem ji_zipS {x : Str} {tp p sp_ pos : Pos} {rows : List (List PyData)} {n : Nat} (hm : X.mg "zip" = none) (he : JE X e δ δ1 (aD (.list (rows.map .tuple)))) (hl : ∀ r ∈ rows, r.length = n) (hn : rows ≠ []) (h6 : rows.length ≤ 6) (hz : n ≤ 1000) (hg : Gl X "zip" := by rfl) (hst : starEach [.Starred e sp_] X.env = [(true, eval e X.env)] := by rfl) :
    JI X (.Name x tp) (.Call (.Name "zip" p) [.Starred e sp_] [] pos) δ δ1 ((cols rows n).map fun c => aD (.tuple c)) :=
  PI.imp (pi_zipS hg hm he hst) fun σ H R ⟨F, B, E, q⟩ => ⟨F, B, E, fun v B1 H1 E1 s1 a1 => by
    obtain ⟨a, xs, rfl, e2, hlx, e3⟩ := Dd.lst_eq a1
    obtain ⟨ts, xss, rfl, h1, h2⟩ := rows_dd e3
    have lt : ts.length = rows.length := by rw [h1.length, h2.length]
    refine ⟨a, ts, xss, rfl, .inr (SqL.of (E1.bh _ _ e2)), fun z => hn (List.eq_nil_of_length_eq_zero (by rw [← lt, z]; rfl)), by rw [lt]; exact h6, rows_t E1.bh h1, q _ B1 H1 E1 s1 (walks_zipS h1 h2 hl hn h6) ?_⟩
    unfold cols
    rw [List.length_map, List.length_map, List.length_range]
    exact small hz⟩
end
end J
/-! enumerate(tuple), tuple.index of ints. -/
namespace J
section
open PySem PySem.Spec PyProof.Rows L2
theorem enum_newT (l : Addr) (items : Array Value) :
    Meets (Builtin.«enumerate.__new__» ⟨[.type "enumerate", .ref l], []⟩) (fun _ R s => s.heap.IsTuple l items ∧
      R (.ok (.ret (.ref (s.heap.push { cls := .type "tuple_iterator", data := .fields #[.ref l, .int 0 0] }).objs.size)))
        { s with heap := (s.heap.push { cls := .type "tuple_iterator", data := .fields #[.ref l, .int 0 0] }).push { cls := .type "enumerate", data := .fields #[.none, .bool false, .ref s.heap.objs.size, rawInt 0, .none, .none] } }) :=
  .of_wp fun prog w A R s h => by
    obtain ⟨hp, g, d, tk, os⟩ := s
    obtain ⟨hl, h⟩ := h
    have hsub := sub_enumerate
    have hL : Heap.IsTuple (Shared.heap ⟨hp, g, d, tk, os⟩) l items := hl
    wp_walk using wpAny_pyIter_tuple hL
    refine wpAny_stack_any fun st => wpAny_pure ?_
    split
    · rename_i c _ _ _ _ _
      cases (c == Value.type "enumerate")
      · wp_walk using wpAny_pyIter_tuple hL
        exact ⟨_, rfl, h⟩
      · wp_walk using wpAny_pyIter_tuple hL
        exact ⟨_, rfl, h⟩
    · wp_walk using wpAny_pyIter_tuple hL
      exact ⟨_, rfl, h⟩
section
variable {prog : Program} {w : World} {A : Around} {E : Value → Shared → Prop} {s : Shared}
theorem call_enumT {l : Addr} {items : Array Value} {Q : Value → Shared → Prop} (hL : s.heap.IsTuple l items)
    (h : ∀ h', IsEnum h' (s.heap.objs.size + 1) s.heap.objs.size 0 .none → h'.IsTupleIter s.heap.objs.size l 0 → (∀ b o, s.heap.get? b = some o → h'.get? b = some o) → Q (.ref (s.heap.objs.size + 1)) { s with heap := h' }) :
    wpAny (model prog w) A (call (.type "enumerate") [.ref l]) Q E s := by
  refine callType_new F.called_enumerate (by decide) (F.typeCall_enumerate_1 _) (F.newCall_enumerate_1 _) (fun obj => F.args_object_init_2 obj _) F.entry_enumerate_new (enum_newT l items) ⟨hL, ?_⟩
  have hz : (s.heap.push { cls := .type "tuple_iterator", data := .fields #[.ref l, .int 0 0] }).objs.size = s.heap.objs.size + 1 := Heap.size_push ..
  show _ ∧ _
  rw [hz]
  have he : IsEnum ((s.heap.push { cls := .type "tuple_iterator", data := .fields #[.ref l, .int 0 0] }).push { cls := .type "enumerate", data := .fields #[.none, .bool false, .ref s.heap.objs.size, rawInt 0, .none, .none] }) (s.heap.objs.size + 1) s.heap.objs.size 0 .none := by
    have e := Heap.get?_push_size (s.heap.push { cls := .type "tuple_iterator", data := .fields #[.ref l, .int 0 0] }) (o := { cls := .type "enumerate", data := .fields #[.none, .bool false, .ref s.heap.objs.size, rawInt 0, .none, .none] }) rfl
    rw [hz] at e
    exact e
  exact ⟨⟨_, he, rfl⟩, h _ he ⟨_, Heap.get?_push_of_some _ (Heap.get?_push_size _ rfl), rfl, rfl⟩ fun b o x => Heap.get?_push_of_some _ (Heap.get?_push_of_some _ x)⟩
end
end
section
open PySem PySem.Spec L2
def IteT (K : PySem.W.Frag) (a : Addr) : It :=
  ⟨fun i H => ∃ (xs : List V) (x : V), SqT K H a xs ∧ xs[i]? = some x, fun i H v H' => ∃ T x, v = .ref T ∧ H T = none ∧ H' = upd H T (.tup [.int (i : Nat), x]) ∧ ∀ xs, SqT K H a xs → xs[i]? = some x, fun i H => ∃ xs : List V, SqT K H a xs ∧ xs.length ≤ i⟩
theorem turn_enumT {P : Program} {w : World} {K : PySem.W.Frag} {elts : List Expr} {kk : Nat} {tpos : Pos} (a e it : Addr) :
    Turn P w K (.Tuple elts kk tpos) (IteT K a) [e, it] e (fun i h => (∃ old, IsEnum h e it ((i : Nat) : Int) old) ∧ h.IsTupleIter it a i ∧ e ≠ it) where
  mem := by simp
  obj := fun i h st b hb => by
    obtain ⟨⟨old, he⟩, ⟨o, ho, hc, hd⟩, _⟩ := st
    have e' : b = e ∨ b = it := by simpa using hb
    rcases e' with z | z
    · rw [z]
      exact ⟨_, he, fun v q => nomatch q⟩
    · rw [z]
      exact ⟨o, ho, fun v q => by rw [hd] at q; cases q⟩
  keep := fun i h h' st k => let ⟨⟨old, he⟩, hi, hne⟩ := st; ⟨⟨old, k e (by simp) _ he⟩, hi.at fun o q => k it (by simp) o q, hne⟩
  item := by
    intro X hP hw hK hc i pins s σ H E I hf st hg
    subst hP hw hK
    obtain ⟨⟨old, he⟩, hit, hne⟩ := st
    obtain ⟨xs, x, hq, hx⟩ := hg
    obtain ⟨its, rv, p, hz⟩ := I.tuple hq
    obtain ⟨u, hu, ru⟩ := rv.get hx
    have hel : e < s.heap.objs.size := Heap.lt_size he
    have hil : it < s.heap.objs.size := by obtain ⟨_, q, _⟩ := hit; exact Heap.lt_size q
    have al : a ≠ it := fun z => by
      obtain ⟨_, q1, c1, _⟩ := hit
      obtain ⟨_, q2, c2, _⟩ := p
      rw [z, q1] at q2
      cases q2
      rw [c1] at c2
      exact absurd (Value.type.inj c2) (by decide)
    have ae : a ≠ e := fun z => by
      obtain ⟨_, q2, c2, _⟩ := p
      rw [z, he] at q2
      cases q2
      exact absurd (Value.type.inj c2) (by decide)
    have hlt : i < its.toArray.size := by
      have := (List.getElem?_eq_some_iff.mp hu).1
      rw [List.size_toArray]
      exact this
    refine PySem.wpAny_pyNext_enum_itemD (Draws.tuple (A := X.A.in1) (by simp [I.ok.hd hc]) it a al its.toArray) he ⟨hit, p⟩ hlt hne (by simp [hne, Ne.symm ae]) fun v h' tk pv ho st' hT hsz hk => ?_
    have ev : v = u := by
      have q : its.toArray[i]? = some v := pv
      rw [← Array.getElem?_toList] at q
      have q' : its[i]? = some v := by simpa using q
      rw [hu] at q'
      exact (Option.some.inj q').symm
    subst ev
    refine ⟨_, rfl, wpAny_letOwnedTupleGo_enum (s := { s with heap := h', toks := tk + 1 }) ho fun h'' he' sb => ?_⟩
    have hT2 : h''.get? s.heap.objs.size = some { cls := .type "tuple", data := .seq #[.int i tk, v] } := (sb.2 _ (Nat.ne_of_gt hel)).trans hT
    have new : ObjOk X.prog X.w (upd H s.heap.objs.size (.tup [.int (i : Nat), x])) h'' s.heap.objs.size (.tup [.int (i : Nat), x]) :=
      ⟨by show 2 ≤ sizeLine; decide, [.int i tk, v], .cons ⟨_, rfl⟩ (.cons ru .nil), ⟨_, hT2, rfl, _, rfl⟩⟩
    have I1 : L2.Inv X pins σ (upd H s.heap.objs.size (.tup [.int (i : Nat), x])) { s with heap := h'', toks := tk + 1 } :=
      I.turnedNew (ch := [e, it]) (fun b ob hb q => (sb.2 b (fun z => hb (by simp [z]))).trans (hk b ob (fun z => hb (by simp [z])) (fun z => hb (by simp [z])) q)) hf (Nat.le_refl _) new
    refine ⟨.ref s.heap.objs.size, _, I1, rfl, ⟨_, x, rfl, I.hok.fresh (Nat.le_refl _), rfl, fun ys hy => by rw [I.tuple_inj hy hq]; exact hx⟩, ⟨⟨v, ?_⟩, st'.1.at fun o q => (sb.2 it (Ne.symm hne)).trans q, hne⟩, fun b hb => ?_⟩
    · have e1 : ((i + 1 : Nat) : Int) = (i : Int) + 1 := by omega
      rw [e1]
      exact he'
    · have hb' : b < s.heap.objs.size := by
        have e' : b = e ∨ b = it := by simpa using hb
        rcases e' with z | z
        · rw [z]
          exact hel
        · rw [z]
          exact hil
      rw [upd_ne (Nat.ne_of_lt hb')]
      exact (hf b hb).1
  done := by
    intro X hP hw hK hc i pins s σ H E I hf st hg
    subst hP hw hK
    obtain ⟨⟨old, he⟩, hit, hne⟩ := st
    obtain ⟨xs, hq, hx⟩ := hg
    obtain ⟨its, rv, p, hz⟩ := I.tuple hq
    have al : a ≠ it := fun z => by
      obtain ⟨_, q1, c1, _⟩ := hit
      obtain ⟨_, q2, c2, _⟩ := p
      rw [z, q1] at q2
      cases q2
      rw [c1] at c2
      exact absurd (Value.type.inj c2) (by decide)
    obtain ⟨f0, f1, f2, f3, f4, f5⟩ := hf it (by simp)
    have hl := rv.length
    have hT : s.TypeIs (.ref e) "enumerate" := ⟨_, he, rfl⟩
    unfold pyNext
    refine wpAny_bind (wpAny_attempt (wpAny_callSpecial?_slot (name := Str.ofString "__next__") hT PySem.F.slot_enumerate_next (wpAny_call_entry PySem.F.slot_enumerate_next hT PySem.F.entry_enumerate_next ?_ (PySem.F.args_enumerate_next_1 _))))
    show wpAny _ _ (field (.ref e) 2 >>= _) _ _ _
    refine wpAny_bind (wpAny_field he rfl (x := .ref it) rfl ?_)
    refine wpAny_bind (PySem.wpAny_nextOf_tuple_end (by simp [I.ok.hd hc]) hit p (by simp; omega) fun h' x eb ⟨o, ho, hcc⟩ => ?_)
    refine wpAny_bind (wpAny_isInstance (T := "StopIteration") (b := true) ⟨o, ho, hcc⟩ PySem.isSubtype_stop ?_)
    exact wpAny_pure ⟨rfl, I.turned (t' := s.toks) (fun b o hb q => eb b o hb q) f0 f1 f3 f4 f5⟩
  self := fun A i s Q E st h => let ⟨⟨_, he⟩, _⟩ := st; wpAny_pyIter_enum he h
def iEnumT (K : PySem.W.Frag) (ta : TA) : TI := fun σ H R => ta σ H fun vs H1 => ∃ a xs, vs = [.ref a] ∧ SqT K H1 a xs ∧ R (IteT K a) H1
theorem pi_enumT {X : Cx} {e : Expr} {ta : TA} {p pos tpos : Pos} {elts : List Expr} {kk : Nat} (hg : Gl X "enumerate") (hm : X.mg "enumerate" = none) (ha : PA X [e] ta) (hs : starEach [e] X.env = [(false, eval e X.env)] := by rfl) :
    PI X (.Tuple elts kk tpos) (.Call (.Name "enumerate" p) [e] [] pos) (iEnumT X.K ta) := by
  refine ⟨fun pins s σ H R I h => ?_⟩
  refine PyProof.Rows.Call_ (ld_blt I hg hm PyProof.Rows.boot_enumerate (PyProof.Rows.callWith_type1 (thn (ha.run pos pins s σ H _ I h) fun us s1 ⟨vs, H1, I1, r1, q1⟩ => ?_) hs rfl))
  obtain ⟨a, xs, ex, hq, q⟩ := q1
  subst ex
  obtain ⟨u, rfl, r⟩ := vals1 r1
  cases r
  obtain ⟨its, rv, p', hz⟩ := I1.tuple hq
  refine call_enumT p' fun h' he hit hk => wpAny_pyIter_enum he ?_
  have I2 : L2.Inv X pins σ H1 { s1 with heap := h' } := I1.kept (t' := s1.toks) hk
  refine ⟨s1.heap.objs.size + 1, [s1.heap.objs.size + 1, s1.heap.objs.size], _, _, H1, rfl, I2, turn_enumT a (s1.heap.objs.size + 1) s1.heap.objs.size, ⟨⟨.none, he⟩, hit, Nat.succ_ne_self _⟩, fun b hb => ?_, q⟩
  have e' : b = s1.heap.objs.size + 1 ∨ b = s1.heap.objs.size := by simpa using hb
  have hle : s1.heap.objs.size ≤ b := by
    rcases e' with z | z
    · rw [z]
      exact Nat.le_add_right _ _
    · rw [z]
      exact Nat.le_refl _
  exact I1.fpOk hle (I1.hok.fresh hle)
end
end J
/-! enumerate as rules; tuple.index; comprehensions of two for. -/
namespace J
open PySem PySem.Spec L2
section
variable {X : Cx} {δ δ1 δ2 : DSt} {A C : AV} {As : List AV} {a b e : Expr} {pos p : Pos} {ds : List PyData}
abbrev enumA (As : List AV) : List AV := As.zipIdx.map fun q => aTA [aI (q.2 : Nat), q.1]
theorem enumA_at {i : Nat} (h : (enumA As)[i]? = some A) : ∃ C, As[i]? = some C ∧ A = aTA [aI (i : Nat), C] := by
  unfold enumA at h
  rw [List.getElem?_map, List.getElem?_zipIdx] at h
  cases q : As[i]? with
  | none => rw [q] at h; cases h
  | some C =>
    rw [q] at h
    refine ⟨C, rfl, ?_⟩
    have e := Option.some.inj h
    rw [← e]
    simp
theorem enumA_len : (enumA As).length = As.length := by unfold enumA; rw [List.length_map, List.length_zipIdx]
theorem walks_enumT {K : PySem.W.Frag} {B : Hp} {a : Addr} {xs : List V} (h : Rd B a (.tup xs)) (d : AllA B As xs) : Walks (IteT K a) B (enumA As) := fun i B1 H1 s s' => by
  have sq : SqT K H1 a xs := .inl (rd_same s' (rd_same s h))
  refine ⟨fun hi => ⟨xs, sq, by rw [← d.length]; rw [enumA_len] at hi; exact hi⟩, fun A hA => ?_⟩
  obtain ⟨C, hC, rfl⟩ := enumA_at hA
  obtain ⟨v, h1, h2⟩ := d.at hC
  refine ⟨⟨xs, v, sq, h1⟩, fun y H2 ⟨T, x, ey, hT, e2, f⟩ => .inr ⟨T, .tup [.int (i : Nat), v], hT, ?_, ?_⟩⟩
  · have e3 := f xs sq
    rw [h1] at e3
    cases e3
    exact e2
  · rw [ey]
    have sB : Same B (upd B1 T (.tup [.int (i : Nat), v])) := s.trans (same_upd (s'.free hT))
    exact ⟨T, _, rfl, upd_same, .cons (.int _) (.cons (C.mono sB h2) .nil), small (by simp)⟩
theorem walks_enumL {K : PySem.W.Frag} {B : Hp} {a : Addr} {xs : List V} (h : B a = some (.lst xs)) (d : AllA B As xs) : Walks (Ite K a) B (enumA As) := fun i B1 H1 s s' => by
  have sq : SqL K H1 a xs := SqL.of (s' _ _ (s _ _ h))
  refine ⟨fun hi => ⟨xs, sq, by rw [← d.length]; rw [enumA_len] at hi; exact hi⟩, fun A hA => ?_⟩
  obtain ⟨C, hC, rfl⟩ := enumA_at hA
  obtain ⟨v, h1, h2⟩ := d.at hC
  refine ⟨⟨xs, v, sq, h1⟩, fun y H2 ⟨T, x, ey, hT, e2, f⟩ => .inr ⟨T, .tup [.int (i : Nat), v], hT, ?_, ?_⟩⟩
  · have e3 := f xs sq
    rw [h1] at e3
    cases e3
    exact e2
  · rw [ey]
    have sB : Same B (upd B1 T (.tup [.int (i : Nat), v])) := s.trans (same_upd (s'.free hT))
    exact ⟨T, _, rfl, upd_same, .cons (.int _) (.cons (C.mono sB h2) .nil), small (by simp)⟩
theorem ji_enumT {elts : List Expr} {kk : Nat} {tpos : Pos} (hm : X.mg "enumerate" = none) (h : JE X e δ δ1 (aD (.tuple ds))) (hg : Gl X "enumerate" := by rfl) (hs : starEach [e] X.env = [(false, eval e X.env)] := by rfl) : JI X (.Tuple elts kk tpos) (.Call (.Name "enumerate" p) [e] [] pos) δ δ1 (enumA (ds.map aD)) :=
  PI.imp (pi_enumT hg hm (ja_cons h ja_nil hs) hs) fun σ H R ⟨F, B, E, q⟩ => ⟨F, B, E, fun vs B1 H1 E1 s1 a1 => by
    obtain ⟨v, rfl, hv⟩ := all2_one a1
    obtain ⟨a, xs, rfl, e2, hl, e3⟩ := Dd.tup_eq hv
    refine ⟨a, xs, rfl, SqT.of (E1.bh _ _ e2), q _ B1 H1 E1 s1 (walks_enumT (.inl e2) e3.all2) ?_⟩
    rw [enumA_len, List.length_map]
    exact hl⟩
theorem ji_enumL {elts : List Expr} {kk : Nat} {tpos : Pos} (hm : X.mg "enumerate" = none) (h : JE X e δ δ1 (aLA As)) (hg : Gl X "enumerate" := by rfl) (hs : starEach [e] X.env = [(false, eval e X.env)] := by rfl) : JI X (.Tuple elts kk tpos) (.Call (.Name "enumerate" p) [e] [] pos) δ δ1 (enumA As) :=
  PI.imp (pi_enum hg hm (ja_cons h ja_nil hs) hs) fun σ H R ⟨F, B, E, q⟩ => ⟨F, B, E, fun vs B1 H1 E1 s1 a1 => by
    obtain ⟨v, rfl, a, xs, rfl, e2, e3, hl⟩ := all2_one a1
    refine ⟨a, xs, rfl, SqL.of (E1.bh _ _ e2), q _ B1 H1 E1 s1 (walks_enumL e2 e3) ?_⟩
    rw [enumA_len]
    exact hl⟩
/-! ### t.index(i), t a plain tuple of ints -/
def rTIx : V → List V → Hp → VK → Prop := fun x xs H Q => ∃ p o ns i j, x = .ref p ∧ xs = [.int i] ∧ H p = some (.frz o (.tup ((ns : List Int).map V.int))) ∧ ns[j]? = some i ∧ (∀ m, m < j → ns[m]? ≠ some i) ∧ Q (.int (j : Nat)) H
theorem mt_tixI : MtR X "tuple.index" rTIx := by
  intro pins s σ H x xs v us Q I rx rs h
  obtain ⟨p, o, ys, z, j, rfl, rfl, hq, hy, hno, q⟩ := h
  cases rx
  obtain ⟨u, rfl, t, rfl⟩ := vals1 rs
  obtain ⟨its, r, pl, hz⟩ := I.tuple (.inl (.inr ⟨o, hq⟩))
  obtain ⟨⟨cls, dd, dt, sl⟩, ho, hc, n, hd⟩ := pl
  simp only at hc hd
  subst hc
  subst hd
  have hl : its.toArray.size = ys.length := by rw [List.size_toArray, ← r.length, List.length_map]
  have hj : j < its.toArray.size := by rw [hl]; exact (List.getElem?_eq_some_iff.mp hy).1
  have at' : ∀ (m : Nat) (hm : m < its.toArray.size), ∃ y t', ys[m]? = some y ∧ its.toArray[m] = Value.int y t' := fun m hm => by
    have hm' : m < ys.length := by rw [← hl]; exact hm
    obtain ⟨w, hw, t', hw'⟩ := r.get (i := m) (x := .int ys[m]) (by simp [hm'])
    refine ⟨ys[m], t', List.getElem?_eq_getElem hm', ?_⟩
    have e := (List.getElem?_eq_some_iff.mp hw).2
    rw [← hw', ← e]
    simp
  have fl : (ys.map V.int).all flatV = true := by
    rw [List.all_map]
    exact List.all_eq_true.mpr fun _ _ => rfl
  refine call_meets PySem.F.slot_tuple_index ⟨_, ho, rfl⟩ PySem.F.entry_tuple_index (PySem.F.args_tuple_index_2 _ _) (TI.tuple_indexAt p its.toArray n dd sl (.int z t) (eqU (.int z)) j hj ?_ ?_)
    ⟨ho, fun w hw => mem_eqAt (x := .int z) ⟨t, rfl⟩ rfl r fl w (by simpa using hw), ⟨.int (j : Nat), H, I.tok _, ⟨_, rfl⟩, q⟩⟩
  · obtain ⟨y, t', h1, h2⟩ := at' j hj
    rw [hy] at h1
    cases h1
    rw [h2]
    show (z == z) = true
    exact beq_self_eq_true z
  · intro m hm hmj
    obtain ⟨y, t', h1, h2⟩ := at' m hm
    rw [h2]
    show (y == z) = false
    exact beq_eq_false_iff_ne.mpr fun e => hno m hmj (e ▸ h1)
def tBF (r : V → List V → Hp → VK → Prop) (to : TE) (t : TA) : TE := fun σ H Q => to σ H fun x H1 => (∃ p o u, x = .ref p ∧ H1 p = some (.frz o u) ∧ o.cls = .type "tuple" ∧ o.dict = none) ∧ t σ H1 fun xs H2 => r x xs H2 Q
theorem pe_bmF {o e : Expr} {es : List Expr} {to : TE} {t : TA} {name : Str} {apos cpos : Pos} {id : String} {r : V → List V → Hp → VK → Prop} (pa : PlainAttrs "tuple") (slot : Slot "tuple" name id) (hty : typeOf (.builtin id) = pure (.type "method_descriptor")) (hm : MtR X id r) (ho : PE X o to) (ha : PA X (e :: es) t)
    (hbase : attributeBase o name X.env (eval o X.env) = eval o X.env := by rfl)
    (hfew : ((backTo cpos (starEach (e :: es) X.env)).all (fun x => !x.1) && (backToKw cpos (keywordEach [] X.env)).all (fun x => x.1.isSome)
      && decide ((e :: es).length + ([] : List Keyword).length + (if ([] : List Keyword).isEmpty then 0 else 1) < 30)) = true := by rfl)
    (hline : (apos.endLine == cpos.line) = true := by rfl) (hs : starEach (e :: es) X.env = (false, eval e X.env) :: starEach es X.env := by rfl) (hplain : (backTo cpos (starEach es X.env)).any (·.1) = false := by rfl) :
    PE X (.Call (.Attribute o name apos) (e :: es) [] cpos) (tBF r to t) := by
  refine ⟨fun pins s σ H Q I h => ?_⟩
  refine wpAny_Call_method_late hbase hfew hline rfl (thn (ho.run pins s σ H _ I h) fun v s1 ⟨x, H1, I1, r1, ⟨p, ob, u, ex, hp, c1, c2⟩, q1⟩ => ?_)
  subst ex
  have r1' := r1
  cases r1'
  obtain ⟨g, _⟩ := I1.hok p _ hp
  refine ⟨"tuple", id, pa, slot, hty, ⟨ob, g, c1⟩, fun a e => ?_, ?_⟩
  · cases e
    exact ⟨ob, g, c2⟩
  have hA := ha.run cpos pins s1 σ H1 _ I1 q1
  rw [hs] at hA ⊢
  refine Calls.callWith_builtin (by show (false || (backTo cpos (starEach es X.env)).any (·.1)) = false; rw [hplain]; rfl) (Calls.evalArgs_plain ?_)
  exact thn hA fun us s2 ⟨vs, H2, I2, r2, q2⟩ => hm pins s2 σ H2 _ vs _ us Q I2 r1 r2 q2
theorem je_index {o : Expr} {ns : List Int} {i : Int} {j : Nat} {apos cpos : Pos} (ho : JE X o δ δ1 (aTF (ns.map aI))) (he : JE X e δ1 δ2 (aI i)) (hj : ns[j]? = some i) (hn : ∀ m, m < j → ns[m]? ≠ some i) (hst : starEach [e] X.env = (false, eval e X.env) :: starEach [] X.env := by rfl)
    (m : A1 X o "index" apos e cpos := by exact ⟨rfl, rfl, rfl, rfl, rfl⟩) :
    JE X (.Call (.Attribute o "index" apos) [e] [] cpos) δ δ2 (aI (j : Nat)) :=
  PE.imp (pe_bmF PySem.F.plainAttrs_tuple PySem.F.slot_tuple_index PySem.F.type_tuple_index mt_tixI ho (pa_cons he pa_nil hst) m.base m.few m.line m.st m.pl) fun σ H Q ⟨F, B, E, q⟩ => ⟨F, B, E, fun x B1 H1 E1 s1 ⟨p, ob, xs, ex, h2, c1, c2, h3, _⟩ => by
    have e3 : xs = ns.map V.int := ints_of (DdAll.of2 (ds := ns.map .int) (by rw [List.map_map]; exact h3))
    refine ⟨⟨p, ob, _, ex, E1.bh _ _ h2, c1, c2⟩, F, B1, E1, fun y B2 H2 E2 s2 a2 => ?_⟩
    exact ⟨p, ob, ns, i, j, ex, by rw [Dd.int_eq a2], by rw [← e3]; exact E2.bh _ _ (s2 _ _ h2), hj, hn, q _ B2 H2 E2 (s1.trans s2) (.int _)⟩⟩
end
end J
/-! Comprehensions of two for. -/
namespace J
open PySem PySem.Spec L2
section
variable {X : Cx} {tg iter tg1 iter1 elt : Expr} {ifs ifs1 : List Expr} {scope : Scope} {own : List (Str × Nat)} {pos : Pos} {δ δ1 : DSt} {α β : Type}
theorem wipe_sub {σ : L2.St} {us vs : List Nat} (h : ∀ j ∈ us, j ∈ vs) : L2.wipe (L2.wipe σ us) vs = L2.wipe σ vs := by
  refine List.ext_getElem? fun j => ?_
  rw [wipe_at, wipe_at σ j vs, wipe_length]
  by_cases q : j ∈ vs
  · rw [if_pos q, if_pos q]
  · rw [if_neg q, if_neg q, wipe_at, if_neg fun z => q (h j z)]
/-- what one pair of turns gives -/
def out2 (ys : α → List β) (p : α → β → Bool) (f : α → β → PyData) (x : α) : List PyData := ((ys x).filter (p x)).map (f x)
theorem take_flat {xs : List α} {i : Nat} {x : α} (h : xs[i]? = some x) (g : α → List PyData) : (xs.take (i + 1)).flatMap g = (xs.take i).flatMap g ++ g x := by
  rw [List.take_add_one, h, List.flatMap_append]
  show _ ++ ([x]).flatMap g = _
  simp
theorem flat_le {xs : List α} {i : Nat} {x : α} (h : xs[i]? = some x) (g : α → List PyData) {o r : List PyData} (e : g x = o ++ r) : ((xs.take i).flatMap g ++ o).length + r.length ≤ (xs.flatMap g).length := by
  have e1 : xs = xs.take i ++ x :: xs.drop (i + 1) := by
    have hi := (List.getElem?_eq_some_iff.mp h)
    obtain ⟨hl, hx⟩ := hi
    rw [← hx, List.getElem_cons_drop, List.take_append_drop]
  conv => rhs; rw [e1]
  rw [List.flatMap_append, List.flatMap_cons, e, List.length_append, List.length_append, List.length_append, List.length_append]
  omega
theorem filter_take {ys : List β} {j : Nat} {y : β} (h : ys[j]? = some y) (p : β → Bool) (f : β → PyData) : ∃ r, (ys.filter p).map f = ((ys.take j).filter p).map f ++ ((if p y then [f y] else []) ++ r) := by
  have e1 : ys = ys.take j ++ y :: ys.drop (j + 1) := by
    obtain ⟨hl, hx⟩ := (List.getElem?_eq_some_iff.mp h)
    rw [← hx, List.getElem_cons_drop, List.take_append_drop]
  refine ⟨((ys.drop (j + 1)).filter p).map f, ?_⟩
  conv => lhs; rw [e1]
  rw [List.filter_append, List.map_append]
  by_cases q : p y = true
  · rw [List.filter_cons_of_pos q, if_pos q, List.map_cons]
    rfl
  · rw [List.filter_cons_of_neg q, if_neg q]
    rfl
theorem lc2_read (xs : List α) (In : α → AV) (ys : α → List β) (In1 : α → β → AV) (p : α → β → Bool) (f : α → β → PyData) (st : α → DSt) (st1 : α → β → DSt) (vs1 : List Nat) {ws ws1 : List Nat} (hv : ∀ i ∈ vs1, i ∈ own.map (·.2))
    (hG : ∀ x ∈ xs, Bk X scope fun Y => JG Y tg (In x) ws (dwipe δ1 (own.map (·.2))) (st x)) (hI : ∀ x ∈ xs, Bk X scope fun Y => JI Y tg1 iter1 (st x) (st x) ((ys x).map (In1 x)))
    (hG1 : ∀ x ∈ xs, ∀ y ∈ ys x, Bk X scope fun Y => JG Y tg1 (In1 x y) ws1 (dwipe (st x) vs1) (st1 x y)) (hT : ∀ x ∈ xs, ∀ y ∈ ys x, Bk X scope fun Y => JTs Y ifs1 (st1 x y) (st1 x y) (p x y))
    (hE : ∀ x ∈ xs, ∀ y ∈ ys x, p x y = true → Bk X scope fun Y => JE Y elt (st1 x y) (st1 x y) (aD (f x y))) (hz : (xs.flatMap (out2 ys p f)).length ≤ sizeLine) (hws : ∀ j ∈ ws, j ∈ own.map (·.2)) (hws1 : ∀ j ∈ ws1, j ∈ vs1)
    (hw : ∀ x, dwipe (st x) (own.map (·.2)) = dwipe δ1 (own.map (·.2))) (hw0 : ∀ x, dwipe (dwipe (st x) vs1) (own.map (·.2)) = dwipe δ1 (own.map (·.2))) (hw1 : ∀ x y, dwipe (st1 x y) vs1 = dwipe (st x) vs1) :
    ∀ σ H Q, tN δ (dwipe δ1 (own.map (·.2))) (isL (xs.flatMap (out2 ys p f))) σ H Q → tLc2 (tI δ δ1 (xs.map In)) (gAnyB X scope tg) (tAnyB X scope []) (iAnyB X scope tg1 iter1) (gAnyB X scope tg1) (tAnyB X scope ifs1) (eAnyB X scope elt) (own.map (·.2)) vs1 σ H Q := by
  refine fun σ H Q ⟨F, B, E, q⟩ => ⟨F, B, E, fun J B1 H1 E1 s1 wk _ => fun D hD => ?_⟩
  have hF : F D = none := E1.fresh hD
  refine ⟨fun i m H' => m = xs.length - i ∧ i ≤ xs.length ∧ ∃ B' acc, Env (upd F D (.lst acc)) B' H' (L2.wipe σ (own.map (·.2))) (dwipe δ1 (own.map (·.2))) ∧ Same B1 B' ∧ DdAll B' acc ((xs.take i).flatMap (out2 ys p f)),
    ⟨xs.length, rfl, Nat.zero_le _, B1, [], (E1.wipe _).newOwn hD, Same.refl _, .nil⟩, ?_⟩
  rintro i m H' ⟨rfl, hi', B', acc, E', s', da⟩
  obtain ⟨w1, w2⟩ := wk i B' H' s' E'.bh
  by_cases hlt : i < xs.length
  · obtain ⟨x, hx⟩ : ∃ x, xs[i]? = some x := ⟨_, List.getElem?_eq_getElem hlt⟩
    have mx := List.mem_of_getElem? hx
    obtain ⟨g, y⟩ := w2 (In x) (by rw [List.getElem?_map, hx]; rfl)
    refine .inr ⟨g, fun H3 => ∃ B3 acc3, Env (upd F D (.lst acc3)) B3 H3 (L2.wipe σ (own.map (·.2))) (dwipe δ1 (own.map (·.2))) ∧ Same B1 B3 ∧ DdAll B3 acc3 ((xs.take (i + 1)).flatMap (out2 ys p f)), fun H3 h3 => ⟨xs.length - (i + 1), by omega, rfl, hlt, h3⟩, fun u H2 hy => ?_⟩
    have go : ∀ B2, Env (upd F D (.lst acc)) B2 H2 (L2.wipe σ (own.map (·.2))) (dwipe δ1 (own.map (·.2))) → Same B' B2 → (In x).p B2 u → gAnyB X scope tg u (L2.wipe σ (own.map (·.2))) H2 fun σ2 H2 => L2.wipe σ2 (own.map (·.2)) = L2.wipe σ (own.map (·.2)) ∧ tAnyB X scope [] σ2 H2 fun b H3 =>
        if b = true then iAnyB X scope tg1 iter1 σ2 H3 fun J1 H4 => ∃ W1 : Nat → Nat → Hp → Prop, (∃ m, W1 0 m H4) ∧ ∀ j k H, W1 j k H →
          (J1.stop j H ∧ ∃ B3 acc3, Env (upd F D (.lst acc3)) B3 H (L2.wipe σ (own.map (·.2))) (dwipe δ1 (own.map (·.2))) ∧ Same B1 B3 ∧ DdAll B3 acc3 ((xs.take (i + 1)).flatMap (out2 ys p f))) ∨
          (J1.go j H ∧ ∃ Nx1 : Hp → Prop, (∀ H', Nx1 H' → ∃ k', k' < k ∧ W1 (j + 1) k' H') ∧ ∀ x H', J1.yld j H x H' → gAnyB X scope tg1 x (L2.wipe σ2 vs1) H' fun σ3 H5 => L2.wipe σ3 vs1 = L2.wipe σ2 vs1 ∧ tAnyB X scope ifs1 σ3 H5 fun b H6 =>
            if b = true then eAnyB X scope elt σ3 H6 fun y H7 => ∃ acc, H7 D = some (.lst acc) ∧ acc.length < sizeLine ∧ Nx1 (upd H7 D (.lst (acc ++ [y]))) else Nx1 H6)
        else ∃ B3 acc3, Env (upd F D (.lst acc3)) B3 H3 (L2.wipe σ (own.map (·.2))) (dwipe δ1 (own.map (·.2))) ∧ Same B1 B3 ∧ DdAll B3 acc3 ((xs.take (i + 1)).flatMap (out2 ys p f)) := fun B2 E2 s2 a2 =>
      ⟨_, ws, _, st x, hG x mx, _, B2, E2, a2, fun σ2 B3 H3 E3 s3 on => by
        have hwp : L2.wipe σ2 (own.map (·.2)) = L2.wipe σ (own.map (·.2)) := (wipe_only on hws).trans (wipe_wipe σ _)
        refine ⟨hwp, st x, st x, true, fun _ _ _ _ _ => jts_nil, _, B3, E3, fun B4 H4 E4 s4 => iteT ⟨st x, st x, _, hI x mx, _, B4, E4, fun J1 B5 H5 E5 s5 wk1 _ => ?_⟩⟩
        refine ⟨fun j k H6 => k = (ys x).length - j ∧ j ≤ (ys x).length ∧ ∃ B6 acc6, Env (upd F D (.lst acc6)) B6 H6 (L2.wipe σ2 vs1) (dwipe (st x) vs1) ∧ Same B5 B6 ∧ DdAll B6 acc6 ((xs.take i).flatMap (out2 ys p f) ++ (((ys x).take j).filter (p x)).map (f x)),
          ⟨(ys x).length, rfl, Nat.zero_le _, B5, acc, E5.wipe vs1, Same.refl _, ?_⟩, ?_⟩
        · rw [List.take_zero]
          show DdAll B5 acc (_ ++ [])
          rw [List.append_nil]
          exact DdAll.mono (((s2.trans s3).trans s4).trans s5) _ _ da
        rintro j k H6 ⟨rfl, hj, B6, acc6, E6, s6, da6⟩
        have sAll : Same B1 B6 := ((((s'.trans s2).trans s3).trans s4).trans s5).trans s6
        obtain ⟨v1, v2⟩ := wk1 j B6 H6 s6 E6.bh
        by_cases hlt1 : j < (ys x).length
        · obtain ⟨yy, hyy⟩ : ∃ yy, (ys x)[j]? = some yy := ⟨_, List.getElem?_eq_getElem hlt1⟩
          have my := List.mem_of_getElem? hyy
          obtain ⟨g1, y1⟩ := v2 (In1 x yy) (by rw [List.getElem?_map, hyy]; rfl)
          obtain ⟨rr, er⟩ := filter_take hyy (p x) (f x)
          have step : (((ys x).take (j + 1)).filter (p x)).map (f x) = (((ys x).take j).filter (p x)).map (f x) ++ (if p x yy then [f x yy] else []) := take_snoc hyy (p x) (f x)
          refine .inr ⟨g1, fun H7 => ∃ B7 acc7, Env (upd F D (.lst acc7)) B7 H7 (L2.wipe σ2 vs1) (dwipe (st x) vs1) ∧ Same B5 B7 ∧ DdAll B7 acc7 ((xs.take i).flatMap (out2 ys p f) ++ (((ys x).take (j + 1)).filter (p x)).map (f x)), fun H7 h7 => ⟨(ys x).length - (j + 1), by omega, rfl, hlt1, h7⟩, fun u1 H7 hy1 => ?_⟩
          have go1 : ∀ B7, Env (upd F D (.lst acc6)) B7 H7 (L2.wipe σ2 vs1) (dwipe (st x) vs1) → Same B6 B7 → (In1 x yy).p B7 u1 → gAnyB X scope tg1 u1 (L2.wipe σ2 vs1) H7 fun σ3 H5 => L2.wipe σ3 vs1 = L2.wipe σ2 vs1 ∧ tAnyB X scope ifs1 σ3 H5 fun b H6 =>
              if b = true then eAnyB X scope elt σ3 H6 fun y H7 => ∃ acc, H7 D = some (.lst acc) ∧ acc.length < sizeLine ∧ ∃ B7 acc7, Env (upd F D (.lst acc7)) B7 (upd H7 D (.lst (acc ++ [y]))) (L2.wipe σ2 vs1) (dwipe (st x) vs1) ∧ Same B5 B7 ∧ DdAll B7 acc7 ((xs.take i).flatMap (out2 ys p f) ++ (((ys x).take (j + 1)).filter (p x)).map (f x))
              else ∃ B7 acc7, Env (upd F D (.lst acc7)) B7 H6 (L2.wipe σ2 vs1) (dwipe (st x) vs1) ∧ Same B5 B7 ∧ DdAll B7 acc7 ((xs.take i).flatMap (out2 ys p f) ++ (((ys x).take (j + 1)).filter (p x)).map (f x)) := fun B7 E7 s7 a7 =>
            ⟨_, ws1, _, st1 x yy, hG1 x mx yy my, _, B7, E7, a7, fun σ3 B8 H8 E8 s8 on1 => by
              have hwp1 : L2.wipe σ3 vs1 = L2.wipe σ2 vs1 := (wipe_only on1 hws1).trans (wipe_wipe σ2 _)
              refine ⟨hwp1, st1 x yy, st1 x yy, p x yy, hT x mx yy my, _, B8, E8, fun B9 H9 E9 s9 => ?_⟩
              cases hp : p x yy with
              | true =>
                refine iteT ⟨st1 x yy, st1 x yy, aD (f x yy), hE x mx yy my hp, _, B9, E9, fun z B10 H10 E10 s10 a10 => ?_⟩
                have hH := E10.fr D _ upd_same
                refine ⟨acc6, hH.1, ?_, B10, acc6 ++ [z], ?_, (((s6.trans s7).trans s8).trans s9).trans s10, ?_⟩
                · rw [da6.len]
                  rw [hp, if_pos rfl] at er
                  have fl := flat_le hx (out2 ys p f) (o := (((ys x).take j).filter (p x)).map (f x)) (r := [f x yy] ++ rr) er
                  have e1 : ([f x yy] ++ rr).length = 1 + rr.length := by rw [List.length_append]; rfl
                  rw [e1] at fl
                  omega
                · have E11 := (E10.reOwn (o' := .lst (acc6 ++ [z]))).wipe vs1
                  rw [hwp1, hw1] at E11
                  exact E11
                · rw [step, hp, if_pos rfl, ← List.append_assoc]
                  exact (DdAll.mono ((((s7.trans s8).trans s9).trans s10)) _ _ da6).append (.cons a10 .nil)
              | false =>
                refine iteF ⟨B9, acc6, ?_, ((s6.trans s7).trans s8).trans s9, ?_⟩
                · have E11 := E9.wipe vs1
                  rw [hwp1, hw1] at E11
                  exact E11
                · rw [step, hp, if_neg Bool.false_ne_true, List.append_nil]
                  exact DdAll.mono ((s7.trans s8).trans s9) _ _ da6⟩
          rcases hy' : y1 u1 H7 hy1 with ⟨e, a3⟩ | ⟨T, o, hT', e, a3⟩
          · subst e
            exact go1 B6 E6 (Same.refl _) a3
          · subst e
            exact go1 _ (E6.laid hT') (same_upd (E6.bh.free hT')) a3
        · have ej : j = (ys x).length := by omega
          subst ej
          refine .inl ⟨v1 (by rw [List.length_map]; exact Nat.le_refl _), B6, acc6, ?_, sAll, ?_⟩
          · have E7 := E6.wipe (own.map (·.2))
            rw [wipe_sub hv, hwp, hw0] at E7
            exact E7
          · rw [take_flat hx]
            rw [List.take_length] at da6
            exact da6⟩
    rcases hy' : y u H2 hy with ⟨e, a2⟩ | ⟨T, o, hT', e, a2⟩
    · subst e
      exact go B' E' (Same.refl _) a2
    · subst e
      exact go _ (E'.laid hT') (same_upd (E'.bh.free hT')) a2
  · have e : i = xs.length := by omega
    subst e
    refine .inl ⟨w1 (by rw [List.length_map]; exact Nat.le_refl _), q D (.lst acc) B' H' hF E'.unwipe (s1.trans s') ⟨acc, rfl, ?_, hz⟩⟩
    rw [List.take_length] at da
    exact da
theorem jn_lc2 (xs : List α) (In : α → AV) (ys : α → List β) (In1 : α → β → AV) (p : α → β → Bool) (f : α → β → PyData) (st : α → DSt) (st1 : α → β → DSt) (vs1 : List Nat) {ws ws1 : List Nat} (hi : JI X tg iter δ δ1 (xs.map In)) (ok : BlkOk X.N X.env.scope scope own) (hv : ∀ i ∈ vs1, i ∈ own.map (·.2))
    (hG : ∀ x ∈ xs, Bk X scope fun Y => JG Y tg (In x) ws (dwipe δ1 (own.map (·.2))) (st x)) (hI : ∀ x ∈ xs, Bk X scope fun Y => JI Y tg1 iter1 (st x) (st x) ((ys x).map (In1 x)))
    (hG1 : ∀ x ∈ xs, ∀ y ∈ ys x, Bk X scope fun Y => JG Y tg1 (In1 x y) ws1 (dwipe (st x) vs1) (st1 x y)) (hT : ∀ x ∈ xs, ∀ y ∈ ys x, Bk X scope fun Y => JTs Y ifs1 (st1 x y) (st1 x y) (p x y))
    (hE : ∀ x ∈ xs, ∀ y ∈ ys x, p x y = true → Bk X scope fun Y => JE Y elt (st1 x y) (st1 x y) (aD (f x y))) (hz : (xs.flatMap (out2 ys p f)).length ≤ sizeLine) (hc : X.calm = true) (hN : X.N.Nodup) (hws : ∀ j ∈ ws, j ∈ own.map (·.2) := by decide) (hws1 : ∀ j ∈ ws1, j ∈ vs1 := by decide)
    (hw : ∀ x, dwipe (st x) (own.map (·.2)) = dwipe δ1 (own.map (·.2)) := by intro _; rfl) (hw0 : ∀ x, dwipe (dwipe (st x) vs1) (own.map (·.2)) = dwipe δ1 (own.map (·.2)) := by intro _; rfl) (hw1 : ∀ x y, dwipe (st1 x y) vs1 = dwipe (st x) vs1 := by intro _ _; rfl)
    (hs : ∀ x, foldedSetIterable iter X.env x = pure x := by intro _; rfl) (hs1 : ∀ env x, foldedSetIterable iter1 env x = pure x := by intro _ _; rfl) : JN X (.ListComp elt [⟨tg, iter, [], 0⟩, ⟨tg1, iter1, ifs1, 0⟩] scope pos) δ (dwipe δ1 (own.map (·.2))) (isL (xs.flatMap (out2 ys p f))) :=
  PE.imp (pe_lc2 hc hN hi ok hv pg_anyB pt_anyB pi_anyB pg_anyB pt_anyB pe_anyB hs hs1) (lc2_read xs In ys In1 p f st st1 vs1 hv hG hI hG1 hT hE hz hws hws1 hw hw0 hw1)
/-- y = [.. two for ..], the list data or one's own -/
theorem jb_lc2 {y : Str} {py spos : Pos} {O : Out} {sts : List Stmt} (i : Nat) (xs : List α) (In : α → AV) (ys : α → List β) (In1 : α → β → AV) (p : α → β → Bool) (f : α → β → PyData) (st : α → DSt) (st1 : α → β → DSt) (vs1 : List Nat) {ws ws1 : List Nat} (hi : JI X tg iter δ δ1 (xs.map In)) (ok : BlkOk X.N X.env.scope scope own) (hv : ∀ i ∈ vs1, i ∈ own.map (·.2))
    (hG : ∀ x ∈ xs, Bk X scope fun Y => JG Y tg (In x) ws (dwipe δ1 (own.map (·.2))) (st x)) (hI : ∀ x ∈ xs, Bk X scope fun Y => JI Y tg1 iter1 (st x) (st x) ((ys x).map (In1 x)))
    (hG1 : ∀ x ∈ xs, ∀ y ∈ ys x, Bk X scope fun Y => JG Y tg1 (In1 x y) ws1 (dwipe (st x) vs1) (st1 x y)) (hT : ∀ x ∈ xs, ∀ y ∈ ys x, Bk X scope fun Y => JTs Y ifs1 (st1 x y) (st1 x y) (p x y))
    (hE : ∀ x ∈ xs, ∀ y ∈ ys x, p x y = true → Bk X scope fun Y => JE Y elt (st1 x y) (st1 x y) (aD (f x y))) (hz : (xs.flatMap (out2 ys p f)).length ≤ sizeLine) (hc : X.calm = true) (hN : X.N.Nodup) (k : JB X sts ((dwipe δ1 (own.map (·.2))).set i (some (.mut (mL (xs.flatMap (out2 ys p f)))))) O) (hws : ∀ j ∈ ws, j ∈ own.map (·.2) := by decide) (hws1 : ∀ j ∈ ws1, j ∈ vs1 := by decide)
    (hw : ∀ x, dwipe (st x) (own.map (·.2)) = dwipe δ1 (own.map (·.2)) := by intro _; rfl) (hw0 : ∀ x, dwipe (dwipe (st x) vs1) (own.map (·.2)) = dwipe δ1 (own.map (·.2)) := by intro _; rfl) (hw1 : ∀ x y, dwipe (st1 x y) vs1 = dwipe (st x) vs1 := by intro _ _; rfl)
    (hy : X.N[i]? = some y := by rfl) (hyl : X.env.scope.names.lookup y = some .local := by rfl) (hsw : swapsWith (.ListComp elt [⟨tg, iter, [], 0⟩, ⟨tg1, iter1, ifs1, 0⟩] scope pos) (some (.Name y py)) spos.line X.env = pure true := by exact sw_true rfl rfl rfl (by decide +kernel))
    (hs : ∀ x, foldedSetIterable iter X.env x = pure x := by intro _; rfl) (hs1 : ∀ env x, foldedSetIterable iter1 env x = pure x := by intro _ _; rfl) :
    JB X (.Assign [.Name y py] (.ListComp elt [⟨tg, iter, [], 0⟩, ⟨tg1, iter1, ifs1, 0⟩] scope pos) spos :: sts) δ O :=
  jb_then (PS.imp (ps_setLc2 hc hN hy hyl hsw hi ok hv pg_anyB pt_anyB pi_anyB pg_anyB pt_anyB pe_anyB hs hs1) fun D σ H ⟨F, B, E, n, _, _, _⟩ => lc2_read xs In ys In1 p f st st1 vs1 hv hG hI hG1 hT hE hz hws hws1 hw hw0 hw1 σ H _ ⟨F, B, E, fun q o B1 H1 g E1 s1 ⟨vs, eo, dv, hl⟩ => by
    subst eo
    exact n _ _ B1 H1 rfl (E1.setMut g i ⟨q, vs, rfl, rfl, (E1.fr q _ upd_same).1, dv, hl⟩) s1⟩) k
end
end J
/-! Dicts of lists of one's own; dict comprehensions; items. -/
namespace J
open PySem PySem.Spec L2
abbrev ListsAt (B H : Hp) (ls : List Addr) (dss : List (List PyData)) : Prop := All2 (fun l (ds : List PyData) => ∃ vs, H l = some (.lst vs) ∧ DdAll B vs ds ∧ ds.length ≤ sizeLine) ls dss
theorem lists_mono {B B' H H' : Hp} (s : Same B B') : ∀ {ls : List Addr} {dss : List (List PyData)}, (∀ l ∈ ls, H' l = H l) → ListsAt B H ls dss → ListsAt B' H' ls dss
  | _, _, _, .nil => .nil
  | _, _, k, .cons ⟨vs, e1, e2, e3⟩ t => .cons ⟨vs, (k _ List.mem_cons_self).trans e1, DdAll.mono s _ _ e2, e3⟩ (lists_mono s (fun l hl => k l (List.mem_cons_of_mem _ hl)) t)
/-- a slot's thing pulled out, to be put back -/
theorem Env.pull {F B H : Hp} {σ : L2.St} {δ : DSt} {n : Nat} {M : MV} (E : Env F B H σ δ) (h : δ[n]? = some (some (.mut M))) : ∃ v R F', σ[n]? = some (some v) ∧ M.p B H v R ∧ Grab F F' R ∧ (∀ a ∈ R, F' a = H a) ∧ Env F' B H σ (δ.set n none) := by
  obtain ⟨Rg, e⟩ := E
  obtain ⟨v, h1, h2⟩ := e.sl n _ h
  let F' : Hp := fun a => if a ∈ Rg n then H a else F a
  have hin : ∀ a, a ∈ Rg n → F' a = H a := fun a m => if_pos m
  have hout : ∀ a, a ∉ Rg n → F' a = F a := fun a m => if_neg m
  refine ⟨v, Rg n, F', h1, h2, ⟨hout, fun a m => ?_⟩, hin, fun j => if j = n then [] else Rg j, ⟨e.bh, fun a x q => ?_, by rw [List.length_set]; exact e.len, fun j c hj => ?_, fun j a hb => ?_, fun j l a k1 k2 => ?_, fun a xs z => by
    by_cases m : a ∈ Rg n
    · rw [hin a m] at z
      exact e.rt n a xs m z
    · rw [hout a m] at z
      exact e.ft a xs z, fun j b xs hb => by
    have hb' : b ∈ (if j = n then [] else Rg j) := hb
    by_cases q : j = n
    · rw [if_pos q] at hb'
      cases hb'
    · rw [if_neg q] at hb'
      exact e.rt j b xs hb'⟩⟩
  · obtain ⟨q1, q2, q3⟩ := e.rg n a m
    refine ⟨q3, ?_⟩
    cases z : H a with
    | none => exact absurd z q2
    | some o => exact ⟨o, by rw [hin a m]; exact z⟩
  · by_cases m : a ∈ Rg n
    · rw [hin a m] at q
      exact ⟨q, (e.rg n a m).1⟩
    · rw [hout a m] at q
      exact e.fr a x q
  · by_cases q : n = j
    · subst q
      by_cases hl : n < δ.length
      · rw [List.getElem?_set_self hl] at hj
        cases hj
      · rw [List.getElem?_eq_none (by rw [List.length_set]; omega)] at hj
        cases hj
    · rw [List.getElem?_set_ne q] at hj
      obtain ⟨u, k1, k2⟩ := e.sl j c hj
      refine ⟨u, k1, ?_⟩
      rw [if_neg (Ne.symm q)]
      exact k2
  · by_cases q : j = n
    · rw [if_pos q] at hb
      exact absurd hb (by simp)
    · rw [if_neg q] at hb
      obtain ⟨q1, q2, q3⟩ := e.rg j a hb
      refine ⟨q1, q2, ?_⟩
      rw [hout a fun z => q (e.dj j n a hb z)]
      exact q3
  · have k1' : a ∈ (if j = n then [] else Rg j) := k1
    have k2' : a ∈ (if l = n then [] else Rg l) := k2
    by_cases q : j = n
    · rw [if_pos q] at k1'
      exact absurd k1' (by simp)
    · by_cases z : l = n
      · rw [if_pos z] at k2'
        exact absurd k2' (by simp)
      · rw [if_neg q] at k1'
        rw [if_neg z] at k2'
        exact e.dj j l a k1' k2'
theorem Env.chg {F B H : Hp} {σ : L2.St} {δ : DSt} {l : Addr} {o o' : HO} (E : Env F B H σ δ) (h : F l = some o) (nt : NotT o' := by exact fun _ z => nomatch z) : Env (upd F l o') B (upd H l o') σ δ := by
  have e : upd F l o = F := funext fun a => by
    by_cases q : a = l
    · rw [q, upd_same, h]
    · rw [upd_ne q]
  have E' : Env (upd F l o) B H σ δ := by rw [e]; exact E
  have E2 := E'.reOwn (o' := o') nt
  have e2 : upd (upd F l o) l o' = upd F l o' := by rw [e]
  first | exact E2 | (rw [e2] at E2; exact E2)
theorem Grab.chg {F F' : Hp} {R : List Addr} {l : Addr} {o' : HO} (g : Grab F F' R) (m : l ∈ R) : Grab F (upd F' l o') R := ⟨fun a n => by
  rw [upd_ne fun z => n (by rw [z]; exact m)]
  exact g.1 a n, fun a ma => ⟨(g.2 a ma).1, by
    by_cases q : a = l
    · rw [q, upd_same]
      exact ⟨o', rfl⟩
    · rw [upd_ne q]
      exact (g.2 a ma).2⟩⟩
theorem set_at {α : Type} {σ : List α} {n : Nat} {v : α} (h : σ[n]? = some v) : σ.set n v = σ := by
  refine List.ext_getElem? fun j => ?_
  by_cases q : n = j
  · subst q
    rw [List.getElem?_set_self (List.getElem?_eq_some_iff.mp h).1, h]
  · rw [List.getElem?_set_ne q]
theorem Env.put {F F' B H : Hp} {σ : L2.St} {δ : DSt} {R : List Addr} {v : V} {n : Nat} {c : Cell} (E : Env F' B H σ (δ.set n none)) (g : Grab F F' R) (hv : σ[n]? = some (some v)) (k : cellOk B H v R c) : Env F B H σ (δ.set n (some c)) := by
  have E2 := E.take g k n
  rw [set_at hv, List.set_set] at E2
  exact E2
/-! ### a dict of one's own whose values are lists of one's own -/
def mDL (kvs : List (L2.Key × List PyData)) : MV := ⟨fun B H v R => ∃ a ws ls, v = .ref a ∧ R = a :: ls ∧ (a :: ls).Nodup ∧ H a = some (.dK ws) ∧ ws = ((kvs.map fun kv : L2.Key × List PyData => kv.1)).zip (ls.map V.ref) ∧ ls.length = kvs.length ∧ ListsAt B H ls (kvs.map fun kv : L2.Key × List PyData => kv.2),
  fun s k ⟨a, ws, ls, h1, h2, h3, h4, h5, h6, h7⟩ => ⟨a, ws, ls, h1, h2, h3, (k a (by rw [h2]; exact List.mem_cons_self)).trans h4, h5, h6, lists_mono s (fun l hl => k l (by rw [h2]; exact List.mem_cons_of_mem _ hl)) h7⟩⟩
/-- a locked dict of data -/
def aMKF (kvs : List (L2.Key × PyData)) : AV := ⟨fun B v => ∃ a o ws, v = .ref a ∧ B a = some (.frz o (.dK ws)) ∧ Vd B ws kvs ∧ kvs.length ≤ sizeLine, fun s ⟨a, o, ws, h1, h2, h3, h4⟩ => ⟨a, o, ws, h1, s _ _ h2, h3.mono s, h4⟩⟩
/-- a statement's rest runs with a thing locked for good -/
theorem pss_lockP {X : Cx} {sts : List Stmt} {t : TS} (h : PSs X sts t) : PSs X sts fun D σ H => ∃ d u, H d = some u ∧ Mut (some u) ∧ ∀ od, t D σ (upd H d (.frz od u)) := ⟨fun pins s σ H D I ⟨d, u, hd, mu, hw⟩ => by
  obtain ⟨od, I1⟩ := I.lock hd mu
  exact h.run pins s σ _ D I1 (hw od)⟩
section
variable {X : Cx} {δ δ1 δ2 : DSt} {A C : AV} {o i e f : Expr} {pos p : Pos} {d : PyData} {O : Out} {sts : List Stmt}
theorem find_zip {k : L2.Key} : ∀ {ks : List L2.Key} {ls : List Addr} {dss : List (List PyData)} {P : Addr → List PyData → Prop}, ks.length = ls.length → All2 P ls dss → k ∈ ks → ks.Nodup →
    ∃ (n : Nat) (l : Addr) (ds : List PyData), ks[n]? = some k ∧ ls[n]? = some l ∧ dss[n]? = some ds ∧ valV (ks.zip (ls.map V.ref)) k = some (.ref l) ∧ P l ds
  | [], _, _, _, _, _, h, _ => absurd h (by simp)
  | _ :: _, [], _, _, l, _, _, _ => by simp at l
  | q :: ks, l :: ls, ds :: dss, P, hl, .cons h t, hm, nd => by
    obtain ⟨n1, n2⟩ := List.nodup_cons.mp nd
    by_cases e : q = k
    · subst e
      refine ⟨0, l, ds, rfl, rfl, rfl, ?_, h⟩
      unfold valV
      rw [List.map_cons, List.zip_cons_cons, List.find?_cons, decide_eq_true rfl]
      rfl
    · have hk : k ∈ ks := by
        rcases List.mem_cons.mp hm with z | z
        · exact absurd z.symm e
        · exact z
      obtain ⟨n, l', ds', a1, a2, a3, a4, a5⟩ := find_zip (Nat.succ.inj hl) t hk n2
      refine ⟨n + 1, l', ds', a1, a2, a3, ?_, a5⟩
      unfold valV at a4 ⊢
      rw [List.map_cons, List.zip_cons_cons, List.find?_cons, decide_eq_false e]
      exact a4
/-- d added to k's list -/
def addTo (kvs : List (L2.Key × List PyData)) (k : L2.Key) (d : PyData) : List (L2.Key × List PyData) := kvs.map fun kv => if kv.1 = k then (kv.1, kv.2 ++ [d]) else kv
theorem addTo_keys (kvs : List (L2.Key × List PyData)) (k : L2.Key) (d : PyData) : (addTo kvs k d).map (·.1) = kvs.map (·.1) := by
  unfold addTo
  rw [List.map_map]
  refine List.map_congr_left fun kv _ => ?_
  show (if kv.1 = k then (kv.1, kv.2 ++ [d]) else kv).1 = kv.1
  split <;> rfl
theorem addTo_at {k : L2.Key} {d : PyData} : ∀ {kvs : List (L2.Key × List PyData)} {n : Nat} {ds : List PyData}, (kvs.map (·.1)).Nodup → (kvs.map (·.1))[n]? = some k → (kvs.map (·.2))[n]? = some ds → (addTo kvs k d).map (·.2) = (kvs.map (·.2)).set n (ds ++ [d])
  | [], n, _, _, h, _ => by simp at h
  | kv :: kvs, 0, ds, nd, h1, h2 => by
    have e1 : kv.1 = k := Option.some.inj h1
    have e2 : kv.2 = ds := Option.some.inj h2
    obtain ⟨n1, n2⟩ := List.nodup_cons.mp nd
    have e3 : addTo kvs k d = kvs := by
      unfold addTo
      conv => rhs; rw [← List.map_id kvs]
      refine List.map_congr_left fun x hx => ?_
      rw [if_neg fun z => n1 (List.mem_map.mpr ⟨x, hx, z.trans e1.symm⟩)]
      rfl
    show ((if kv.1 = k then (kv.1, kv.2 ++ [d]) else kv) :: addTo kvs k d).map (·.2) = _
    rw [if_pos e1, e3, e2]
    rfl
  | kv :: kvs, n + 1, ds, nd, h1, h2 => by
    obtain ⟨n1, n2⟩ := List.nodup_cons.mp nd
    have ne : kv.1 ≠ k := fun z => n1 (by show kv.1 ∈ _; rw [z]; exact List.mem_of_getElem? (show (kvs.map (·.1))[n]? = some k from h1))
    show ((if kv.1 = k then (kv.1, kv.2 ++ [d]) else kv) :: addTo kvs k d).map (·.2) = _
    rw [if_neg ne, List.map_cons, addTo_at n2 (show (kvs.map (·.1))[n]? = some k from h1) (show (kvs.map (·.2))[n]? = some ds from h2)]
    rfl
theorem all2_set {α β : Type} {R R' : α → β → Prop} {b' : β} : ∀ {as : List α} {bs : List β} {n : Nat} {a : α}, All2 R as bs → as[n]? = some a → as.Nodup → R' a b' → (∀ x y, x ≠ a → R x y → R' x y) → All2 R' as (bs.set n b')
  | [], _, n, _, _, h, _, _, _ => by simp at h
  | x :: as, _, 0, a, .cons q t, h, nd, ra, k => by
    have e : x = a := Option.some.inj h
    subst e
    obtain ⟨n1, _⟩ := List.nodup_cons.mp nd
    refine .cons ra ?_
    have all : ∀ {as : List α} {bs : List β}, x ∉ as → All2 R as bs → All2 R' as bs := by
      intro as bs hx q
      induction q with
      | nil => exact .nil
      | cons q t ih => exact .cons (k _ _ (fun z => hx (by rw [z]; exact List.mem_cons_self)) q) (ih fun z => hx (List.mem_cons_of_mem _ z))
    exact all n1 t
  | x :: as, _, n + 1, a, .cons q t, h, nd, ra, k => by
    obtain ⟨n1, n2⟩ := List.nodup_cons.mp nd
    have h' : as[n]? = some a := h
    exact .cons (k _ _ (fun z => n1 (by rw [z]; exact List.mem_of_getElem? h')) q) (all2_set t h' n2 ra k)
/-- x[k].append(e) -/
theorem je_dlApp {x : Str} {px ps : Pos} {kvs : List (L2.Key × List PyData)} {k : L2.Key} {apos cpos : Pos} (n : Nat) (hu : X.A.units + 1 < cLine) (h0 : δ[n]? = some (some (.mut (mDL kvs)))) (hi : JE X i (δ.set n none) (δ.set n none) (aD (kD k))) (he : JE X e (δ.set n none) (δ.set n none) (aD d)) (hk : k ∈ kvs.map (·.1)) (nd : (kvs.map (·.1)).Nodup) (hz : ∀ kv ∈ kvs, kv.2.length + 1 ≤ sizeLine)
    (hN : X.N[n]? = some x := by rfl) (hv : Vis X.env.scope x := by first | exact Or.inl rfl | exact Or.inr (Or.inl rfl) | exact Or.inr (Or.inr rfl)) (hd : (x == ("__debug__" : Str)) = false := by decide) (hcd : (x == ("__classdict__" : Str)) = false := by decide) (hst : starEach [e] X.env = (false, eval e X.env) :: starEach [] X.env := by rfl) (hs : NoSl i := by exact fun _ _ => rfl)
    (m : A1 X (.Subscript (.Name x px) i ps) "append" apos e cpos := by exact ⟨rfl, rfl, rfl, rfl, rfl⟩) :
    JE X (.Call (.Attribute (.Subscript (.Name x px) i ps) "append" apos) [e] [] cpos) δ (δ.set n (some (.mut (mDL (addTo kvs k d))))) aN :=
  PE.imp (pe_bm PySem.F.plainAttrs_list PySem.F.slot_list_append PySem.F.type_list_append mt_append (pe_dget hu (pe_var hN hv hd hcd) hi hs) (pa_cons he pa_nil hst) m.base m.few m.line m.st m.pl) fun σ H Q ⟨F, B, E, q⟩ => by
    obtain ⟨v, R, F', e1, ⟨a, ws, ls, rfl, g2, g3, g4, g5, g6, g7⟩, g, hin, E0⟩ := E.pull h0
    refine ⟨.ref a, e1, F', B, E0, fun y B1 H1 E1 s1 a1 => ?_⟩
    have stay : ∀ {H' : Hp} {B' : Hp} {δ' : DSt}, Env F' B' H' σ δ' → ∀ b ∈ R, H' b = H b := fun E' b hb => by
      obtain ⟨_, o, e⟩ := g.2 b hb
      rw [(E'.fr b o e).1, ← hin b hb, e]
    have ma : a ∈ R := by rw [g2]; exact List.mem_cons_self
    have ml : ∀ l ∈ ls, l ∈ R := fun l hl => by rw [g2]; exact List.mem_cons_of_mem _ hl
    have t1 : ListsAt B1 H1 ls (kvs.map (·.2)) := lists_mono s1 (fun l hl => stay E1 l (ml l hl)) g7
    obtain ⟨m, l, ds, k1, k2, k3, k4, vs, k5, k6, k7⟩ := find_zip (by rw [List.length_map]; exact g6.symm) t1 hk nd
    refine ⟨a, .ref l, rfl, ?_, .inl ⟨rfl, vs, SqL.of k5⟩, F', B1, E1, fun z B2 H2 E2 s2 a2 => ?_⟩
    · rw [Dd.key a1, ← k4, ← g5]
      exact DGet.k ((stay E1 a ma).trans g4)
    · have mlR := ml l (List.mem_of_getElem? k2)
      have hl2 : H2 l = some (.lst vs) := by rw [stay E2 l mlR, ← stay E1 l mlR]; exact k5
      have t2 : ListsAt B2 H2 ls (kvs.map (·.2)) := lists_mono (s1.trans s2) (fun l hl => stay E2 l (ml l hl)) g7
      have len : ds.length + 1 ≤ sizeLine := by
        obtain ⟨kv, hkv, rfl⟩ := List.mem_map.mp (List.mem_of_getElem? k3)
        exact hz kv hkv
      refine ⟨l, vs, z, rfl, rfl, hl2, by rw [k6.len]; omega, ?_⟩
      have Fl : F' l = some (.lst vs) := by rw [hin l mlR, ← stay E2 l mlR]; exact hl2
      have E3 := E2.chg (o' := .lst (vs ++ [z])) Fl
      refine q .non B2 _ (E3.put (g.chg mlR) e1 ⟨a, ws, ls, rfl, g2, g3, ?_, by rw [addTo_keys]; exact g5, ?_, ?_⟩) (s1.trans s2) .non
      · obtain ⟨n1, _⟩ := List.nodup_cons.mp g3
        rw [upd_ne fun z => n1 (by rw [z]; exact List.mem_of_getElem? k2), stay E2 a ma]
        exact g4
      · unfold addTo
        rw [List.length_map]
        exact g6
      · rw [addTo_at nd k1 k3]
        refine all2_set (R := fun l (ds : List PyData) => ∃ vs, H2 l = some (.lst vs) ∧ DdAll B2 vs ds ∧ ds.length ≤ sizeLine) t2 k2 (List.nodup_cons.mp g3).2 ⟨vs ++ [z], upd_same, (DdAll.mono s2 _ _ k6).append (.cons a2 .nil), by rw [List.length_append]; exact len⟩ fun x y hx ⟨us, q1, q2, q3⟩ => ⟨us, by rw [upd_ne hx]; exact q1, q2, q3⟩
end
end J
namespace J
open PySem PySem.Spec L2
section
variable {X : Cx} {δ δ1 δ2 : DSt} {A C : AV} {o i e f : Expr} {pos p : Pos} {d : PyData} {O : Out} {sts : List Stmt}
theorem Env.frzG {F F' B H : Hp} {σ : L2.St} {δ : DSt} {R : List Addr} (E : Env F' B H σ δ) (g : Grab F F' R) : ∃ B', Env F B' H σ δ ∧ Same B B' ∧ ∀ a ∈ R, B' a = H a := by
  obtain ⟨Rg, e⟩ := E
  let B' : Hp := fun a => if a ∈ R then H a else B a
  have hin : ∀ a, a ∈ R → B' a = H a := fun a m => if_pos m
  have hout : ∀ a, a ∉ R → B' a = B a := fun a m => if_neg m
  have hR : ∀ a ∈ R, B a = none ∧ F a = none := fun a m => by
    obtain ⟨h1, o, h2⟩ := g.2 a m
    exact ⟨(e.fr a o h2).2, h1⟩
  have sB : Same B B' := fun a x q => by
    by_cases m : a ∈ R
    · rw [(hR a m).1] at q
      cases q
    · rw [hout a m]
      exact q
  have hj : ∀ j a, a ∈ Rg j → a ∉ R := fun j a m z => by
    obtain ⟨_, o, h2⟩ := g.2 a z
    rw [(e.rg j a m).2.2] at h2
    cases h2
  refine ⟨B', ⟨Rg, ⟨fun a x q => ?_, fun a x q => ?_, e.len, fun j c hj' => ?_, fun j a hb => ?_, e.dj, fun a xs z => e.ft a xs (g.sub a _ z), e.rt⟩⟩, sB, hin⟩
  · by_cases m : a ∈ R
    · rw [hin a m] at q
      exact q
    · rw [hout a m] at q
      exact e.bh a x q
  · have m : a ∉ R := fun m => by rw [(hR a m).2] at q; cases q
    rw [hout a m]
    exact e.fr a x (by rw [g.1 a m]; exact q)
  · obtain ⟨u, k1, k2⟩ := e.sl j c hj'
    exact ⟨u, k1, k2.mono sB fun b hb => rfl⟩
  · obtain ⟨q1, q2, q3⟩ := e.rg j a hb
    have m := hj j a hb
    refine ⟨by rw [hout a m]; exact q1, q2, ?_⟩
    rw [← g.1 a m]
    exact q3
theorem Env.setv {F B H : Hp} {σ : L2.St} {δ : DSt} {n : Nat} {v : V} {A : AV} (E : Env F B H σ δ) (h : σ[n]? = some (some v)) (a : A.p B v) : Env F B H σ (δ.set n (some (.val A))) := by
  have E2 := E.set n a
  rw [set_at h] at E2
  exact E2
abbrev dlD (kvs : List (L2.Key × List PyData)) : List (L2.Key × PyData) := kvs.map fun kv => (kv.1, PyData.list kv.2)
theorem vd_lists {B H B' : Hp} (s : Same B B') : ∀ {kvs : List (L2.Key × List PyData)} {ls : List Addr}, ls.length = kvs.length → (∀ l ∈ ls, B' l = H l) → ListsAt B H ls (kvs.map fun kv => kv.2) → Vd B' ((kvs.map fun kv => kv.1).zip (ls.map V.ref)) (dlD kvs)
  | [], [], _, _, _ => .nil
  | [], _ :: _, h, _, _ => by simp at h
  | _ :: _, [], h, _, _ => by simp at h
  | kv :: kvs, l :: ls, h, k, .cons ⟨vs, e1, e2, e3⟩ t =>
    .cons rfl (.lst ((k l List.mem_cons_self).trans e1) e3 (DdAll.mono s _ _ e2)) (vd_lists s (Nat.succ.inj h) (fun x hx => k x (List.mem_cons_of_mem _ hx)) t)
/-- the dict and its lists are read as data from here on -/
theorem jb_frzDL {kvs : List (L2.Key × List PyData)} (n : Nat) (hi : δ[n]? = some (some (.mut (mDL kvs)))) (hl : kvs.length ≤ sizeLine) (h : JB X sts (δ.set n (some (.val (aMKF (dlD kvs))))) O) : JB X sts δ O :=
  PSs.imp (pss_lockP h) fun D σ H ⟨F, B, E, nx, r, b, c⟩ => by
    obtain ⟨v, R, F', e1, ⟨a, ws, ls, rfl, g2, g3, g4, g5, g6, g7⟩, g, hin, E0⟩ := E.pull hi
    have ma : a ∈ R := by rw [g2]; exact List.mem_cons_self
    refine ⟨a, .dK ws, g4, True.intro, fun od => ?_⟩
    obtain ⟨n1, _⟩ := List.nodup_cons.mp g3
    have E1 := E0.chg (o' := .frz od (.dK ws)) ((hin a ma).trans g4)
    obtain ⟨B1, E2, sB, kB⟩ := E1.frzG (g.chg ma)
    have E3 := E2.setv (n := n) (A := aMKF (dlD kvs)) e1 ⟨a, od, ws, rfl, by rw [kB a ma, upd_same], ?_, by rw [List.length_map]; exact hl⟩
    · rw [List.set_set] at E3
      exact ⟨F, B1, E3, fun d x y z o e t => nx d x y z o e (sB.trans t), fun A v y z o f t => r A v y z o f (sB.trans t), fun d x y z o e t => b d x y z o e (sB.trans t), fun d x y z o e t => c d x y z o e (sB.trans t)⟩
    · rw [g5]
      refine vd_lists sB g6 (fun l hl => ?_) g7
      rw [kB l (by rw [g2]; exact List.mem_cons_of_mem _ hl), upd_ne fun z => n1 (by rw [← z]; exact hl)]
theorem je_dgetF {kvs : List (L2.Key × PyData)} {k : L2.Key} (hu : X.A.units + 1 < cLine) (ho : JE X o δ δ1 (aMKF kvs)) (hi : JE X i δ1 δ2 (aD (kD k))) (hk : lk kvs k = some d) (hs : NoSl i := by exact fun _ _ => rfl) : JE X (.Subscript o i pos) δ δ2 (aD d) :=
  PE.imp (pe_dget hu ho hi hs) fun σ H Q ⟨F, B, E, q⟩ => ⟨F, B, E, fun x B1 H1 E1 s1 a1 => ⟨F, B1, E1, fun y B2 H2 E2 s2 a2 => by
    obtain ⟨a, ob, ws, rfl, h2, h3, _⟩ := (aMKF kvs).mono s2 a1
    obtain ⟨v, hv, dv⟩ := (h3.get k).1 d hk
    refine ⟨a, v, rfl, ?_, q v B2 H2 E2 (s1.trans s2) dv⟩
    rw [Dd.key a2, ← hv]
    exact .inl ⟨ws, k, .inr ⟨ob, E2.bh _ _ h2⟩, rfl, rfl⟩⟩⟩
/-! ### items -/
theorem Vd.at {B : Hp} {κ : Type} [DecidableEq κ] {ws : List (κ × V)} {kvs : List (κ × PyData)} {i : Nat} {kv : κ × PyData} (h : Vd B ws kvs) (e : kvs[i]? = some kv) : ∃ v, ws[i]? = some (kv.1, v) ∧ Dd B v kv.2 := by
  have e2 : (kvs.map (·.2))[i]? = some kv.2 := by rw [List.getElem?_map, e]; rfl
  obtain ⟨v, h1, h2⟩ := h.vs.get e2
  have hk : (ws.map (·.1))[i]? = some kv.1 := by rw [h.ks, List.getElem?_map, e]; rfl
  rw [List.getElem?_map] at h1 hk
  cases q : ws[i]? with
  | none => rw [q] at h1; cases h1
  | some p =>
    rw [q] at h1 hk
    have e3 : p.2 = v := Option.some.inj h1
    have e4 : p.1 = kv.1 := Option.some.inj hk
    exact ⟨v, by rw [← e3, ← e4], h2⟩
theorem Dd.ofKey {B : Hp} (k : L2.Key) : Dd B (kV k) (kD k) := by
  cases k with
  | inl i => exact .int i
  | inr x => exact .str x
theorem walks_items {B : Hp} {a : Addr} {ob : Obj} {ws : List (L2.Key × V)} {kvs : List (L2.Key × PyData)} (h : B a = some (.frz ob (.dK ws))) (d : Vd B ws kvs) : Walks (Iti a ob ws) B (kvs.map fun kv => aTA [aD (kD kv.1), aD kv.2]) := fun i B1 H1 s s' => by
  have h1 := s' _ _ (s _ _ h)
  refine ⟨fun hi => ⟨h1, by rw [d.len]; rw [List.length_map] at hi; exact hi⟩, fun A hA => ?_⟩
  rw [List.getElem?_map] at hA
  cases hx : kvs[i]? with
  | none => rw [hx] at hA; cases hA
  | some kv =>
    rw [hx] at hA
    cases hA
    obtain ⟨v, h2, h3⟩ := Vd.at d hx
    refine ⟨⟨h1, (List.getElem?_eq_some_iff.mp h2).1⟩, fun y H2 ⟨T, k, u, e1, ey, hT, e2⟩ => .inr ⟨T, .tup [kV k, u], hT, e2, ?_⟩⟩
    rw [h2] at e1
    cases e1
    rw [ey]
    have sB : Same B (upd B1 T (.tup [kV kv.1, v])) := s.trans (same_upd (s'.free hT))
    exact ⟨T, _, rfl, upd_same, .cons (Dd.ofKey _) (.cons (Dd.mono sB _ _ h3) .nil), small (by simp)⟩
theorem ji_items {elts : List Expr} {kk : Nat} {tpos apos cpos : Pos} {kvs : List (L2.Key × PyData)} (h : JE X e δ δ1 (aMKF kvs)) (hbase : attributeBase e "items" X.env (eval e X.env) = eval e X.env := by rfl) (hline : (apos.endLine == cpos.line) = true := by rfl) :
    JI X (.Tuple elts kk tpos) (.Call (.Attribute e "items" apos) [] [] cpos) δ δ1 (kvs.map fun kv => aTA [aD (kD kv.1), aD kv.2]) :=
  PI.imp (pi_items h hbase hline) fun σ H R ⟨F, B, E, q⟩ => ⟨F, B, E, fun v B1 H1 E1 s1 ⟨a, ob, ws, e1, e2, e3, hl⟩ => ⟨a, ob, ws, e1, E1.bh _ _ e2, q _ B1 H1 E1 s1 (walks_items e2 e3) (by rw [List.length_map]; exact hl)⟩⟩
end
end J
/-! Dict comprehensions. -/
namespace J
open PySem PySem.Spec L2
theorem putK_new {ws : List (L2.Key × V)} {k : L2.Key} {v : V} (h : k ∉ ws.map (·.1)) : putK ws k v = ws ++ [(k, v)] := by
  unfold putK
  rw [any_ff h]
  rfl
section
variable {X : Cx} {tg iter kx vx : Expr} {scope : Scope} {own : List (Str × Nat)} {pos : Pos} {δ δ1 : DSt} {α : Type}
theorem take_mem {κ : Type} {xs : List α} {i : Nat} {x : α} {key : α → κ} (h : xs[i]? = some x) (nd : (xs.map key).Nodup) : key x ∉ (xs.take i).map key := by
  have e1 : xs = xs.take i ++ x :: xs.drop (i + 1) := by
    obtain ⟨hl, hx⟩ := (List.getElem?_eq_some_iff.mp h)
    rw [← hx, List.getElem_cons_drop, List.take_append_drop]
  rw [e1, List.map_append, List.map_cons, List.nodup_append] at nd
  exact fun z => nd.2.2 _ z _ List.mem_cons_self rfl
/-- {k: v for tg in iter}, the values data -/
theorem je_dc (xs : List α) (In : α → AV) (key : α → L2.Key) (f : α → PyData) (st : α → DSt) {ws : List Nat} (hi : JI X tg iter δ δ1 (xs.map In)) (ok : BlkOk X.N X.env.scope scope own) (hG : ∀ x ∈ xs, Bk X scope fun Y => JG Y tg (In x) ws (dwipe δ1 (own.map (·.2))) (st x))
    (hK : ∀ x ∈ xs, Bk X scope fun Y => JE Y kx (st x) (st x) (aD (kD (key x)))) (hE : ∀ x ∈ xs, Bk X scope fun Y => JE Y vx (st x) (st x) (aD (f x))) (nd : (xs.map key).Nodup) (hz : xs.length ≤ sizeLine) (hc : X.calm = true) (hN : X.N.Nodup) (hws : ∀ j ∈ ws, j ∈ own.map (·.2) := by decide)
    (hw : ∀ x, dwipe (st x) (own.map (·.2)) = dwipe δ1 (own.map (·.2)) := by intro _; rfl) (hs : ∀ x, foldedSetIterable iter X.env x = pure x := by intro _; rfl) :
    JE X (.DictComp kx vx [⟨tg, iter, [], 0⟩] scope pos) δ (dwipe δ1 (own.map (·.2))) (aMK (xs.map fun x => (key x, f x))) := by
  refine PE.imp (pe_dc hc hN hi ok pg_anyB pt_anyB pe_anyB pe_anyB hs) fun σ H Q ⟨F, B, E, q⟩ => ⟨F, B, E, fun J B1 H1 E1 s1 wk _ => fun D hD => ?_⟩
  have hF : F D = none := E1.fresh hD
  refine ⟨fun i m H' => m = xs.length - i ∧ i ≤ xs.length ∧ ∃ B' acc, Env (upd F D (.dK acc)) B' H' (L2.wipe σ (own.map (·.2))) (dwipe δ1 (own.map (·.2))) ∧ Same B1 B' ∧ Vd B' acc ((xs.take i).map fun x => (key x, f x)),
    ⟨xs.length, rfl, Nat.zero_le _, B1, [], (E1.wipe _).newOwn hD, Same.refl _, .nil⟩, ?_⟩
  rintro i m H' ⟨rfl, hi', B', acc, E', s', da⟩
  obtain ⟨w1, w2⟩ := wk i B' H' s' E'.bh
  by_cases hlt : i < xs.length
  · obtain ⟨x, hx⟩ : ∃ x, xs[i]? = some x := ⟨_, List.getElem?_eq_getElem hlt⟩
    have mx := List.mem_of_getElem? hx
    obtain ⟨g, y⟩ := w2 (In x) (by rw [List.getElem?_map, hx]; rfl)
    refine .inr ⟨g, fun H3 => ∃ B3 acc3, Env (upd F D (.dK acc3)) B3 H3 (L2.wipe σ (own.map (·.2))) (dwipe δ1 (own.map (·.2))) ∧ Same B1 B3 ∧ Vd B3 acc3 ((xs.take (i + 1)).map fun x => (key x, f x)), fun H3 h3 => ⟨xs.length - (i + 1), by omega, rfl, hlt, h3⟩, fun u H2 hy => ?_⟩
    have go : ∀ B2, Env (upd F D (.dK acc)) B2 H2 (L2.wipe σ (own.map (·.2))) (dwipe δ1 (own.map (·.2))) → Same B' B2 → (In x).p B2 u → gAnyB X scope tg u (L2.wipe σ (own.map (·.2))) H2 fun σ2 H2 => L2.wipe σ2 (own.map (·.2)) = L2.wipe σ (own.map (·.2)) ∧ tAnyB X scope [] σ2 H2 fun b H3 =>
        if b = true then eAnyB X scope kx σ2 H3 fun y H4 => eAnyB X scope vx σ2 H4 fun z H5 => ∃ kvs k, y = kV k ∧ H5 D = some (.dK kvs) ∧ kvs.length < sizeLine ∧ ∃ B3 acc3, Env (upd F D (.dK acc3)) B3 (upd H5 D (.dK (putK kvs k z))) (L2.wipe σ (own.map (·.2))) (dwipe δ1 (own.map (·.2))) ∧ Same B1 B3 ∧ Vd B3 acc3 ((xs.take (i + 1)).map fun x => (key x, f x))
        else ∃ B3 acc3, Env (upd F D (.dK acc3)) B3 H3 (L2.wipe σ (own.map (·.2))) (dwipe δ1 (own.map (·.2))) ∧ Same B1 B3 ∧ Vd B3 acc3 ((xs.take (i + 1)).map fun x => (key x, f x)) := fun B2 E2 s2 a2 =>
      ⟨_, ws, _, st x, hG x mx, _, B2, E2, a2, fun σ3 B3 H3 E3 s3 on => by
        have hwp : L2.wipe σ3 (own.map (·.2)) = L2.wipe σ (own.map (·.2)) := (wipe_only on hws).trans (wipe_wipe σ _)
        refine ⟨hwp, st x, st x, true, fun _ _ _ _ _ => jts_nil, _, B3, E3, fun B4 H4 E4 s4 => iteT ⟨st x, st x, _, hK x mx, _, B4, E4, fun y B5 H5 E5 s5 a5 => ⟨st x, st x, _, hE x mx, _, B5, E5, fun z B6 H6 E6 s6 a6 => ?_⟩⟩⟩
        have hH := E6.fr D _ upd_same
        have sAll := (((s2.trans s3).trans s4).trans s5).trans s6
        refine ⟨acc, key x, Dd.key a5, hH.1, ?_, B6, putK acc (key x) z, ?_, s'.trans sAll, ?_⟩
        · rw [da.len, List.length_map, List.length_take]
          omega
        · have E7 := (E6.reOwn (o' := .dK (putK acc (key x) z))).wipe (own.map (·.2))
          rw [hwp, hw] at E7
          exact E7
        · have nm : key x ∉ acc.map (·.1) := by
            rw [da.ks, List.map_map]
            exact take_mem hx nd
          rw [putK_new nm, List.take_add_one, hx, List.map_append]
          exact (da.mono sAll).app (.cons rfl a6 .nil)⟩
    rcases hy' : y u H2 hy with ⟨e, a2⟩ | ⟨T, o, hT', e, a2⟩
    · subst e
      exact go B' E' (Same.refl _) a2
    · subst e
      exact go _ (E'.laid hT') (same_upd (E'.bh.free hT')) a2
  · have e : i = xs.length := by omega
    subst e
    rw [List.take_length] at da
    have sB := same_upd (o := .dK acc) (E'.fr D _ upd_same).2
    refine .inl ⟨w1 (by rw [List.length_map]; exact Nat.le_refl _), q (.ref D) _ H' (E'.freeze hF).unwipe ((s1.trans s').trans sB) ⟨D, acc, rfl, upd_same, da.mono sB⟩⟩
def eNB (X : Cx) (scope : Scope) (vx : Expr) : TE := fun σ H Q => ∃ δ δ', Bk X scope (fun Y => JN Y vx δ δ' (isL [])) ∧ tN δ δ' (isL []) σ H Q
theorem pe_nB {vx : Expr} : Bk X scope fun Y => PE Y vx (eNB X scope vx) := fun s0 H0 C cl fp => ⟨fun pins s σ H Q I ⟨δ, δ', j, q⟩ => (j s0 H0 C cl fp).run pins s σ H Q I q⟩
theorem dcL_read (xs : List α) (In : α → AV) (key : α → L2.Key) (st : α → DSt) {ws : List Nat} (hG : ∀ x ∈ xs, Bk X scope fun Y => JG Y tg (In x) ws (dwipe δ1 (own.map (·.2))) (st x))
    (hK : ∀ x ∈ xs, Bk X scope fun Y => JE Y kx (st x) (st x) (aD (kD (key x)))) (hE : ∀ x ∈ xs, Bk X scope fun Y => JN Y vx (st x) (st x) (isL [])) (nd : (xs.map key).Nodup) (hz : xs.length ≤ sizeLine) (hws : ∀ j ∈ ws, j ∈ own.map (·.2))
    (hw : ∀ x, dwipe (st x) (own.map (·.2)) = dwipe δ1 (own.map (·.2))) :
    ∀ σ H Q, tX δ (dwipe δ1 (own.map (·.2))) (.mut (mDL (xs.map fun x => (key x, [])))) σ H Q → tDc (tI δ δ1 (xs.map In)) (gAnyB X scope tg) (tAnyB X scope []) (eAnyB X scope kx) (eNB X scope vx) (own.map (·.2)) σ H Q := by
  refine fun σ H Q ⟨F, B, E, q⟩ => ⟨F, B, E, fun J B1 H1 E1 s1 wk _ => fun D hD => ?_⟩
  have hF : F D = none := E1.fresh hD
  refine ⟨fun i m H' => m = xs.length - i ∧ i ≤ xs.length ∧ ∃ B' F' ls, Env F' B' H' (L2.wipe σ (own.map (·.2))) (dwipe δ1 (own.map (·.2))) ∧ Same B1 B' ∧ Grab F F' (D :: ls) ∧ (D :: ls).Nodup ∧ F' D = some (.dK (((xs.take i).map key).zip (ls.map V.ref))) ∧ ls.length = i ∧ ∀ l ∈ ls, F' l = some (.lst []),
    ⟨xs.length, rfl, Nat.zero_le _, B1, upd F D (.dK []), [], (E1.wipe _).newOwn hD, Same.refl _, .one hF, by simp, upd_same, rfl, fun l z => nomatch z⟩, ?_⟩
  rintro i m H' ⟨rfl, hi', B', F', ls, E', s', gr, ndl, hFD, hll, hls⟩
  obtain ⟨w1, w2⟩ := wk i B' H' s' E'.bh
  have el : ((xs.take i).map key).length = ls.length := by rw [List.length_map, List.length_take, hll]; omega
  by_cases hlt : i < xs.length
  · obtain ⟨x, hx⟩ : ∃ x, xs[i]? = some x := ⟨_, List.getElem?_eq_getElem hlt⟩
    have mx := List.mem_of_getElem? hx
    obtain ⟨g, y⟩ := w2 (In x) (by rw [List.getElem?_map, hx]; rfl)
    refine .inr ⟨g, fun H3 => ∃ B' F' ls, Env F' B' H3 (L2.wipe σ (own.map (·.2))) (dwipe δ1 (own.map (·.2))) ∧ Same B1 B' ∧ Grab F F' (D :: ls) ∧ (D :: ls).Nodup ∧ F' D = some (.dK (((xs.take (i + 1)).map key).zip (ls.map V.ref))) ∧ ls.length = i + 1 ∧ ∀ l ∈ ls, F' l = some (.lst []), fun H3 h3 => ⟨xs.length - (i + 1), by omega, rfl, hlt, h3⟩, fun u H2 hy => ?_⟩
    have go : ∀ B2, Env F' B2 H2 (L2.wipe σ (own.map (·.2))) (dwipe δ1 (own.map (·.2))) → Same B' B2 → (In x).p B2 u → gAnyB X scope tg u (L2.wipe σ (own.map (·.2))) H2 fun σ2 H2 => L2.wipe σ2 (own.map (·.2)) = L2.wipe σ (own.map (·.2)) ∧ tAnyB X scope [] σ2 H2 fun b H3 =>
        if b = true then eAnyB X scope kx σ2 H3 fun y H4 => (∃ δ δ', Bk X scope (fun Y => JN Y vx δ δ' (isL [])) ∧ tN δ δ' (isL []) σ2 H4 fun z H5 => ∃ kvs k, y = kV k ∧ H5 D = some (.dK kvs) ∧ kvs.length < sizeLine ∧ ∃ B' F' ls, Env F' B' (upd H5 D (.dK (putK kvs k z))) (L2.wipe σ (own.map (·.2))) (dwipe δ1 (own.map (·.2))) ∧ Same B1 B' ∧ Grab F F' (D :: ls) ∧ (D :: ls).Nodup ∧ F' D = some (.dK (((xs.take (i + 1)).map key).zip (ls.map V.ref))) ∧ ls.length = i + 1 ∧ ∀ l ∈ ls, F' l = some (.lst []))
        else ∃ B' F' ls, Env F' B' H3 (L2.wipe σ (own.map (·.2))) (dwipe δ1 (own.map (·.2))) ∧ Same B1 B' ∧ Grab F F' (D :: ls) ∧ (D :: ls).Nodup ∧ F' D = some (.dK (((xs.take (i + 1)).map key).zip (ls.map V.ref))) ∧ ls.length = i + 1 ∧ ∀ l ∈ ls, F' l = some (.lst []) := fun B2 E2 s2 a2 =>
      ⟨_, ws, _, st x, hG x mx, _, B2, E2, a2, fun σ3 B3 H3 E3 s3 on => by
        have hwp : L2.wipe σ3 (own.map (·.2)) = L2.wipe σ (own.map (·.2)) := (wipe_only on hws).trans (wipe_wipe σ _)
        refine ⟨hwp, st x, st x, true, fun _ _ _ _ _ => jts_nil, _, B3, E3, fun B4 H4 E4 s4 => iteT ⟨st x, st x, _, hK x mx, _, B4, E4, fun y B5 H5 E5 s5 a5 => ⟨st x, st x, hE x mx, _, B5, E5, fun p o B6 H6 f6 E6 s6 ⟨vs, eo, dv, _⟩ => ?_⟩⟩⟩
        cases dv
        subst eo
        have npD : p ≠ D := fun z => by rw [z, hFD] at f6; cases f6
        have npl : p ∉ ls := fun z => by rw [hls p z] at f6; cases f6
        have hFp : F p = none := by
          cases z : F p with
          | none => rfl
          | some o => rw [gr.sub p o z] at f6; cases f6
        have hD6 : upd F' p (.lst []) D = some (.dK (((xs.take i).map key).zip (ls.map V.ref))) := by rw [upd_ne npD.symm]; exact hFD
        have nm : key x ∉ (((xs.take i).map key).zip (ls.map V.ref)).map (·.1) := by
          rw [List.map_fst_zip (by rw [el, List.length_map]; exact Nat.le_refl _)]
          exact take_mem hx nd
        have ez : putK (((xs.take i).map key).zip (ls.map V.ref)) (key x) (V.ref p) = ((xs.take (i + 1)).map key).zip ((ls ++ [p]).map V.ref) := by
          rw [putK_new nm, List.take_add_one, hx, List.map_append, List.map_append, List.zip_append (by rw [el, List.length_map])]
          rfl
        refine ⟨_, key x, Dd.key a5, (E6.fr D _ hD6).1, ?_, B6, upd (upd F' p (.lst [])) D (.dK (putK (((xs.take i).map key).zip (ls.map V.ref)) (key x) (V.ref p))), ls ++ [p], ?_, ((((s'.trans s2).trans s3).trans s4).trans s5).trans s6, ⟨fun a na => ?_, fun a ma => ?_⟩, ?_, ?_, ?_, fun l hl => ?_⟩
        · rw [List.length_zip, el, List.length_map, Nat.min_self, hll]
          omega
        · have E7 := (E6.chg (o' := .dK (putK (((xs.take i).map key).zip (ls.map V.ref)) (key x) (V.ref p))) hD6).wipe (own.map (·.2))
          rw [hwp, hw] at E7
          exact E7
        · have n1 : a ≠ D := fun z => na (by rw [z]; exact List.mem_cons_self)
          have n2 : a ≠ p := fun z => na (List.mem_cons_of_mem _ (List.mem_append_right _ (by rw [z]; exact List.mem_singleton.mpr rfl)))
          rw [upd_ne n1, upd_ne n2]
          exact gr.1 a fun z => by
            rcases List.mem_cons.mp z with z | z
            · exact n1 z
            · exact na (List.mem_cons_of_mem _ (List.mem_append_left _ z))
        · by_cases e1 : a = D
          · rw [e1, upd_same]
            exact ⟨hF, _, rfl⟩
          · rw [upd_ne e1]
            by_cases e2 : a = p
            · rw [e2, upd_same]
              exact ⟨hFp, _, rfl⟩
            · rw [upd_ne e2]
              refine gr.2 a ?_
              rcases List.mem_cons.mp ma with z | z
              · exact absurd z e1
              · rcases List.mem_append.mp z with z | z
                · exact List.mem_cons_of_mem _ z
                · exact absurd (List.mem_singleton.mp z) e2
        · obtain ⟨n1, n2⟩ := List.nodup_cons.mp ndl
          refine List.nodup_cons.mpr ⟨fun z => ?_, ?_⟩
          · rcases List.mem_append.mp z with z | z
            · exact n1 z
            · exact npD (List.mem_singleton.mp z).symm
          · rw [List.nodup_append]
            refine ⟨n2, by simp, fun a ha b hb e => ?_⟩
            rw [List.mem_singleton.mp hb] at e
            rw [e] at ha
            exact npl ha
        · rw [upd_same, ez]
        · rw [List.length_append, hll]
          rfl
        · have hlD : l ≠ D := by
            rcases List.mem_append.mp hl with z | z
            · exact fun e => (List.nodup_cons.mp ndl).1 (by rw [← e]; exact z)
            · rw [List.mem_singleton.mp z]
              exact npD
          rw [upd_ne hlD]
          by_cases e2 : l = p
          · rw [e2, upd_same]
          · rw [upd_ne e2]
            rcases List.mem_append.mp hl with z | z
            · exact hls l z
            · exact absurd (List.mem_singleton.mp z) e2⟩
    rcases hy' : y u H2 hy with ⟨e, a2⟩ | ⟨T, o, hT', e, a2⟩
    · subst e
      exact go B' E' (Same.refl _) a2
    · subst e
      exact go _ (E'.laid hT') (same_upd (E'.bh.free hT')) a2
  · have e : i = xs.length := by omega
    subst e
    rw [List.take_length] at hFD el
    refine .inl ⟨w1 (by rw [List.length_map]; exact Nat.le_refl _), q (.ref D) (D :: ls) F' B' H' gr E'.unwipe (s1.trans s') ⟨D, _, ls, rfl, rfl, ndl, (E'.fr D _ hFD).1, ?_, by rw [hll, List.length_map], ?_⟩⟩
    · rw [List.map_map]
      rfl
    · rw [List.map_map]
      have all : ∀ {ls : List Addr} {ys : List α}, ls.length = ys.length → (∀ l ∈ ls, H' l = some (.lst [])) → ListsAt B' H' ls (ys.map fun _ => []) := by
        intro ls
        induction ls with
        | nil =>
          intro ys h _
          rw [List.eq_nil_of_length_eq_zero h.symm]
          exact .nil
        | cons l ls ih =>
          intro ys h k
          cases ys with
          | nil => cases h
          | cons y ys => exact .cons ⟨[], k l List.mem_cons_self, .nil, Nat.zero_le _⟩ (ih (Nat.succ.inj h) fun l hl => k l (List.mem_cons_of_mem _ hl))
      exact all hll fun l hl => (E'.fr l _ (hls l hl)).1
/-- {k: [] for tg in iter} -/
theorem jx_dcL (xs : List α) (In : α → AV) (key : α → L2.Key) (st : α → DSt) {ws : List Nat} (hi : JI X tg iter δ δ1 (xs.map In)) (ok : BlkOk X.N X.env.scope scope own) (hG : ∀ x ∈ xs, Bk X scope fun Y => JG Y tg (In x) ws (dwipe δ1 (own.map (·.2))) (st x))
    (hK : ∀ x ∈ xs, Bk X scope fun Y => JE Y kx (st x) (st x) (aD (kD (key x)))) (hE : ∀ x ∈ xs, Bk X scope fun Y => JN Y vx (st x) (st x) (isL [])) (nd : (xs.map key).Nodup) (hz : xs.length ≤ sizeLine) (hc : X.calm = true) (hN : X.N.Nodup) (hws : ∀ j ∈ ws, j ∈ own.map (·.2) := by decide)
    (hw : ∀ x, dwipe (st x) (own.map (·.2)) = dwipe δ1 (own.map (·.2)) := by intro _; rfl) (hs : ∀ x, foldedSetIterable iter X.env x = pure x := by intro _; rfl) :
    JX X (.DictComp kx vx [⟨tg, iter, [], 0⟩] scope pos) δ (dwipe δ1 (own.map (·.2))) (.mut (mDL (xs.map fun x => (key x, [])))) :=
  PE.imp (pe_dc hc hN hi ok pg_anyB pt_anyB pe_anyB pe_nB hs) (dcL_read xs In key st hG hK hE nd hz hws hw)
theorem swd_true {gs : List Comprehension} {py : Pos} {y : Str} {l : Nat} {env : PySem.Env} (hk : env.scope.kind = .function) (hy : env.scope.names.lookup y = some .local) (hl : (py.line == pos.line) = true)
    (ha : (scope.names.any fun (n, k) => n == y && (k == .local || k == .cell)) = false) : swapsWith (.DictComp kx vx gs scope pos) (some (.Name y py)) l env = pure true := by
  have ky : env.kindOf y = some .local := hy
  have hb : env.blockKind = .function := by unfold Env.blockKind; rw [hk]; rfl
  unfold swapsWith
  simp only [hb, ky, ha, Expr.pos, hl]
  rfl
/-- name = {..} on one line, the name a local -/
theorem ps_setDc {i : Nat} {y : Str} {py : Pos} {ifs : List Expr} {spos : Pos} {wi : TI} {g : TG} {tt : TT} {tk tv : TE} (hc : X.calm = true) (hN : X.N.Nodup) (hy : X.N[i]? = some y) (hyl : X.env.scope.names.lookup y = some .local)
    (hsw : swapsWith (.DictComp kx vx [⟨tg, iter, ifs, 0⟩] scope pos) (some (.Name y py)) spos.line X.env = pure true) (hi : PI X tg iter wi) (ok : BlkOk X.N X.env.scope scope own)
    (hg : ∀ (s : Shared) (H : Hp) (C : Addr) (cl : List (Str × Addr)) (fp : List Addr), PG (X.blk s H scope (compEnvC scope cl C X.env) fp) tg g) (ht : ∀ (s : Shared) (H : Hp) (C : Addr) (cl : List (Str × Addr)) (fp : List Addr), PTs (X.blk s H scope (compEnvC scope cl C X.env) fp) ifs tt)
    (hk : ∀ (s : Shared) (H : Hp) (C : Addr) (cl : List (Str × Addr)) (fp : List Addr), PE (X.blk s H scope (compEnvC scope cl C X.env) fp) kx tk)
    (he : ∀ (s : Shared) (H : Hp) (C : Addr) (cl : List (Str × Addr)) (fp : List Addr), PE (X.blk s H scope (compEnvC scope cl C X.env) fp) vx tv) (hs : ∀ x, foldedSetIterable iter X.env x = pure x := by intro _; rfl) :
    PS X (.Assign [.Name y py] (.DictComp kx vx [⟨tg, iter, ifs, 0⟩] scope pos) spos) (tAsg (tDc wi g tt tk tv (own.map (·.2))) (gName i)) := by
  refine ⟨fun pins s σ H D I h => ?_⟩
  rw [exec_Assign_Name_used _ _ _ _ hsw]
  refine wpAny_bind (wpAny_standAt (wpAny_bind ?_))
  show wpAny _ X.A (do let _ ← comprehension (.DictComp kx vx [⟨tg, iter, ifs, 0⟩] scope pos) scope X.env (firstIterPos [⟨tg, iter, ifs, 0⟩] pos) newDict false (eval iter X.env) (some (assign (.Name y py) X.env))) _ _ s
  have h : tDc wi g tt tk tv (own.map (·.2)) σ H (fun x H1 => gName i x σ H1 D.nx) := h
  refine wpAny_bind (thn (dc_core (Qf := fun _ s' => SP X pins D .next s') hc hN I hi ok hg ht hk he hs h fun L C s' m H' I' q hn f => ?_) fun _ s' hq => wpAny_pure (wpAny_pure hq))
  show wpAny _ _ (assign (.Name y py) X.env (.ref L)) _ _ _
  refine wpAny_assign_Name (store_ok2 (v := V.ref L) I' hN hy (.inl hyl) rfl (fun s2 I2 ⟨a, sb, ha⟩ => ?_) (.inr hyl))
  obtain ⟨f0, f1, f2, f3, f4, f5⟩ := f
  have haC : C ≠ a := by
    rcases ha with z | z
    · rw [z]; exact f1
    · exact fun e => f4 y a z e.symm
  refine ⟨m, hn.sameBut sb haC, fun h3 sb3 => ?_⟩
  exact ⟨_, H', I2.turned (t' := s2.toks) (fun b o hb e => (sb3.2 b hb).trans e) f0 f1 f3 f4 f5, q⟩
theorem jb_dcL {y : Str} {py spos : Pos} {O : Out} {sts : List Stmt} (i : Nat) (xs : List α) (In : α → AV) (key : α → L2.Key) (st : α → DSt) {ws : List Nat} (hi : JI X tg iter δ δ1 (xs.map In)) (ok : BlkOk X.N X.env.scope scope own) (hG : ∀ x ∈ xs, Bk X scope fun Y => JG Y tg (In x) ws (dwipe δ1 (own.map (·.2))) (st x))
    (hK : ∀ x ∈ xs, Bk X scope fun Y => JE Y kx (st x) (st x) (aD (kD (key x)))) (hE : ∀ x ∈ xs, Bk X scope fun Y => JN Y vx (st x) (st x) (isL [])) (nd : (xs.map key).Nodup) (hz : xs.length ≤ sizeLine) (hc : X.calm = true) (hN : X.N.Nodup) (k : JB X sts ((dwipe δ1 (own.map (·.2))).set i (some (.mut (mDL (xs.map fun x => (key x, [])))))) O) (hws : ∀ j ∈ ws, j ∈ own.map (·.2) := by decide)
    (hw : ∀ x, dwipe (st x) (own.map (·.2)) = dwipe δ1 (own.map (·.2)) := by intro _; rfl) (hy : X.N[i]? = some y := by rfl) (hyl : X.env.scope.names.lookup y = some .local := by rfl)
    (hsw : swapsWith (.DictComp kx vx [⟨tg, iter, [], 0⟩] scope pos) (some (.Name y py)) spos.line X.env = pure true := by exact swd_true rfl rfl rfl (by decide +kernel)) (hs : ∀ x, foldedSetIterable iter X.env x = pure x := by intro _; rfl) :
    JB X (.Assign [.Name y py] (.DictComp kx vx [⟨tg, iter, [], 0⟩] scope pos) spos :: sts) δ O :=
  jb_then (PS.imp (ps_setDc hc hN hy hyl hsw hi ok pg_anyB pt_anyB pe_anyB pe_nB hs) fun D σ H ⟨F, B, E, n, _, _, _⟩ => dcL_read xs In key st hG hK hE nd hz hws hw σ H _ ⟨F, B, E, fun v R F1 B1 H1 g E1 s1 c1 => n _ _ B1 H1 rfl (E1.take g c1 i) s1⟩) k
end
end J
/-! x in d.values(), d a dict by tuples; sorted(d). -/
namespace J
section
open PySem PySem.Spec PyProof.Rows L2
theorem entry_ci : entryFor table "proto.contains_iter" = some Builtin.«proto.contains_iter» := by first | exact entryFor_of_tree (by kernel_rfl) | exact entryFor_of_fast (by kernel_rfl)
theorem plain_ci : plainId "proto.contains_iter" = true := by decide +kernel
theorem no_contains_values : typeLookup (.type "dict_values") "__contains__" = pure none := by rw [typeLookup_type, builtinLookup_eq_fast]; kernel_rfl
section
variable {P : Program} {w : World} {A : Around} {E : Value → Shared → Prop} {s : Shared}
/-- what is asked of each item -/
theorem ci_loop {I : Addr} {fp : List Addr} {n : Nat} {Pv : Nat → Value → Prop} {St : Nat → Heap → Prop} {x : Value} {R : Result → Shared → Prop} {h0 : Heap} (e : Nat → Bool) (W : PySem.Walks P w A.in1 I fp [I] n Pv St) (hI : h0.get? I = none)
    (eq : ∀ i v (s : Shared) (Q : Bool → Shared → Prop) (E : Value → Shared → Prop), i < n → Pv i v → (∀ b o, h0.get? b = some o → s.heap.get? b = some o) → Q (e i) s → wpAny (model P w) A.in1 (eqBool v x) Q E s) :
    ∀ (k i : Nat) (s : Shared), i + k = n → St i s.heap → (∀ b o, h0.get? b = some o → s.heap.get? b = some o) → (∀ h' tk, (∀ b o, h0.get? b = some o → h'.get? b = some o) → R (.ok (.ret (.bool ((List.range' i k).any e)))) { s with heap := h', toks := tk }) →
      codeAny (model P w) A (.builtin "proto.contains_iter" ⟨[.ref I, x], []⟩) R s := by
  have keep : ∀ {h h' : Heap}, (∀ b o, b ∉ [I] → h.get? b = some o → h'.get? b = some o) → (∀ b o, h0.get? b = some o → h.get? b = some o) → ∀ b o, h0.get? b = some o → h'.get? b = some o := fun k q b o e => k b o (fun z => by rw [List.mem_singleton.mp z, hI] at e; cases e) (q b o e)
  intro k
  induction k with
  | zero =>
    intro i s hn st q hR
    obtain rfl : i = n := by omega
    refine codeAny_builtin entry_ci ?_
    rw [Around.under_plainId plain_ci _]
    show wpAny _ A.in1 (pyNext (.ref I) >>= _) _ _ s
    refine wpAny_bind (W.done s _ _ st fun h' tk kp => ?_)
    refine wpAny_bind (wpAny_rule ?_)
    exact wpAny_pure (hR h' tk (keep kp q))
  | succ k ih =>
    intro i s hn st q hR
    refine codeAny_builtin entry_ci ?_
    rw [Around.under_plainId plain_ci _]
    show wpAny _ A.in1 (pyNext (.ref I) >>= _) _ _ s
    refine wpAny_bind (W.item i s _ _ (by omega) st fun v h' tk pv st' kp => ?_)
    refine wpAny_bind (eq i v _ _ _ (by omega) pv (keep kp q) ?_)
    cases he : e i with
    | true =>
      refine wp_if_pos rfl (wpAny_bind (wpAny_rule ?_))
      have r := hR h' tk (keep kp q)
      rw [List.range'_succ, List.any_cons, he, Bool.true_or] at r
      exact wpAny_pure r
    | false =>
      refine wp_if_neg (by decide) ?_
      refine wpAny_pure ⟨plainId_quiet plain_ci _, ih (i + 1) _ (by omega) st' (keep kp q) fun h'' tk' kp' => ?_⟩
      have r := hR h'' tk' kp'
      rw [List.range'_succ, List.any_cons, he, Bool.false_or] at r
      exact r
theorem contains_values {v d : Addr} {es : Array DictEntry} {ep : Nat} {x : Value} {Q : Bool → Shared → Prop} (hh : A.handled = none) (e : Nat → Bool) (hv : s.heap.IsValuesView v d) (hd : s.heap.DictRaw d es ep) (hx : stdlibNamesSay? (.ref v) x = none)
    (eq : ∀ i u (s' : Shared) (Q : Bool → Shared → Prop) (E : Value → Shared → Prop), i < es.size → (∃ hi : i < es.size, u = es[i].val) → (∀ b o, s.heap.get? b = some o → s'.heap.get? b = some o) → Q (e i) s' → wpAny (model P w) A.in1 (eqBool u x) Q E s')
    (hQ : ∀ h' tk, (∀ b o, s.heap.get? b = some o → h'.get? b = some o) → Q ((List.range' 0 es.size).any e) { s with heap := h', toks := tk }) : wpAny (model P w) A (contains (.ref v) x) Q E s := by
  have hd0 := hd.lt_size
  have K0 : s.heap.get? s.heap.objs.size = none := by
    cases q : s.heap.get? s.heap.objs.size with
    | none => rfl
    | some o => exact absurd (Heap.lt_size q) (Nat.lt_irrefl _)
  unfold contains
  refine wpAny_holding ?_
  rw [hx]
  try refine wpAny_bind (wpAny_pure ?_)
  refine wpAny_bind (wpAny_specialOf hv.typeIs no_contains_values ?_)
  refine wp_if_neg (by decide) ?_
  try refine wpAny_bind (wpAny_pure ?_)
  unfold callSpecialUnlessNone?
  refine wpAny_bind (wpAny_bind (wpAny_specialOf hv.typeIs no_contains_values (wpAny_pure ?_)))
  dsimp only
  refine wpAny_bind (wpAny_rule ?_)
  refine wpAny_bind (wpAny_tryCatch (wpAny_pyIter_values_raw hv hd ?_))
  refine wpAny_bind (wpAny_runValue ?_)
  refine ci_loop (A := A) (h0 := s.heap) e (PySem.Walks.rawValues (by simp [hh]) _ d (Nat.ne_of_lt hd0) es ep) K0 eq es.size 0 _ (by omega) ?_ ?_ ?_
  · exact ⟨⟨_, Heap.get?_push_size _ rfl, rfl, rfl⟩, hd.push _⟩
  · exact fun b o q => Heap.get?_push_of_some _ q
  · exact fun h' tk k => wpAny_pure (hQ h' tk k)
end
theorem meetsValues {prog : Program} {w : World} {s : Shared} {d : Addr} {es : Array DictEntry} {ep : Nat} (hd : (d == sysModules) = false) {A : Around} {E : Value → Shared → Prop} {Q : Value → Shared → Prop} (hm : s.heap.DictRaw d es ep)
    (h : Q (.ref s.heap.objs.size) { s with heap := s.heap.push { cls := .type "dict_values", data := .fields #[.ref d] } }) : wpAny (model prog w) A (call (.builtin "dict.values") [.ref d]) Q E s :=
  call_meetsIn PySem.F.slot_dict_values hm.typeIs PySem.F.entry_dict_values (PySem.F.args_dict_values_1 _) (meets_dict_values_raw d hd) ⟨⟨es, ep, hm⟩, h⟩
def valsO (p d : Addr) : HO := .ext fun h => h.IsValuesView p d
theorem valsO_ok {P : Program} {w : World} {H : Hp} {h : Heap} {p d : Addr} (e : h.get? p = some { cls := .type "dict_values", data := .fields #[.ref d] }) : ObjOk P w H h p (valsO p d) :=
  ⟨⟨_, e, rfl, rfl⟩, ⟨_, e⟩, fun h1 h2 x k => let ⟨o, ho, r⟩ := x; ⟨o, k o ho, r⟩⟩
section
variable {X : Cx}
def rValsT : V → List V → Hp → VK → Prop := fun x xs H Q => ∃ (a : Addr) (kvs : List (List L2.Key × V)), x = .ref a ∧ xs = [] ∧ H a = some (.dT kvs) ∧ ∀ p, H p = none → Q (.ref p) (upd H p (valsO p a))
theorem mt_valsT : MtR X "dict.values" rValsT := by
  intro pins s σ H x xs v us Q I rx rxs h
  obtain ⟨a, kvs, rfl, rfl, ha, q⟩ := h
  cases rx
  cases rxs
  obtain ⟨z, hd, xs', rel, o, es, ep, ho, hx, hdat, _⟩ := dt_of I.hok ha
  refine meetsValues (es := es) (ep := ep) hd ⟨o, ho, hx, hdat⟩ ?_
  have hf : H s.heap.objs.size = none := I.hok.fresh (Nat.le_refl _)
  exact ⟨.ref s.heap.objs.size, upd H s.heap.objs.size (valsO s.heap.objs.size a), I.laid (t' := s.toks) (fun b u e => Heap.get?_push_of_some _ e) (Nat.le_refl _) (valsO_ok (Heap.get?_push_size _ rfl)), rfl, q _ hf⟩
theorem any_range' {α : Type} (f : α → Bool) (e : Nat → Bool) : ∀ (l : List α) (i : Nat), (∀ j x, l[j]? = some x → e (i + j) = f x) → (List.range' i l.length).any e = l.any f
  | [], _, _ => rfl
  | x :: l, i, h => by
    rw [List.length_cons, List.range'_succ, List.any_cons, List.any_cons]
    have h0 := h 0 x rfl
    rw [Nat.add_zero] at h0
    rw [h0, any_range' f e l (i + 1) fun j y hy => by rw [← h (j + 1) y hy]; congr 1; omega]
def rInVals (K : PySem.W.Frag) : R2 := fun x y H Q => ∃ (p a : Addr) (ws : List (List L2.Key × V)) (ds : List PyData) (d : PyData), y = .ref p ∧ H p = some (valsO p a) ∧ H a = some (.dT ws) ∧ DpAll K H (ws.map (·.2)) ds ∧ Dp K H x d ∧ SeqAt.shaped d = true ∧ (∀ e ∈ ds, SeqAt.shaped e = true) ∧ Q (.bl (ds.any fun z => PyData.eqv z d)) H
theorem dpall_get {K : PySem.W.Frag} {H : Hp} : ∀ {vs : List V} {ds : List PyData} {j : Nat} {v : V}, DpAll K H vs ds → vs[j]? = some v → ∃ d, ds[j]? = some d ∧ Dp K H v d
  | _, _, j, _, .nil, h => by simp at h
  | _, _, 0, _, .cons a t, h => by cases h; exact ⟨_, rfl, a⟩
  | _, _, j + 1, _, .cons a t, h => by
    rw [List.getElem?_cons_succ] at h
    obtain ⟨d, e, x⟩ := dpall_get t h
    exact ⟨d, by rw [List.getElem?_cons_succ]; exact e, x⟩
theorem dpall_len {K : PySem.W.Frag} {H : Hp} : ∀ {vs : List V} {ds : List PyData}, DpAll K H vs ds → vs.length = ds.length
  | _, _, .nil => rfl
  | _, _, .cons _ t => congrArg (· + 1) (dpall_len t)
theorem op_inVals (hc : X.calm = true) (hu : X.A.units + 65 < cLine) : OpR X (compareOp .In) (rInVals X.K) := by
  intro pins s σ H x y v u Q I rx ry h
  obtain ⟨p, a, ws, ds, d, rfl, hp, ha, hds, hd, sd, sds, q⟩ := h
  cases ry
  obtain ⟨as, r1⟩ := Dp.reads I d x v hd rx
  have view : s.heap.IsValuesView p a := (show ObjOk X.prog X.w H s.heap p (valsO p a) from I.hok p _ hp).1
  obtain ⟨z, hs, xs', rel, o, es, ep, ho, hx, hdat, hes, _⟩ := dt_of I.hok ha
  have hsz : es.size = ds.length := by rw [size_of_entries hes, ← Paired.length rel, ← dpall_len hds, List.length_map]
  show wpAny _ _ (contains (.ref p) v >>= fun b => pure (Value.bool b)) _ _ s
  have hst : stdlibNamesSay? (.ref p) v = none := by
    cases v <;> rfl
  let e : Nat → Bool := fun j => (ds[j]?.map fun z => PyData.eqv z d).getD false
  refine wpAny_bind (contains_values (I.ok.hd hc) e view ⟨o, ho, hx, hdat⟩ hst (fun i u' s' Q' E' hi hu' k q' => ?_) fun h' tk k => ?_)
  · obtain ⟨hi', rfl⟩ := hu'
    have he := entry_at hes i
    rw [Array.getElem?_eq_getElem hi'] at he
    cases hxi : xs'[i]? with
    | none => rw [hxi] at he; cases he
    | some q3 =>
      rw [hxi] at he
      have he2 : es[i].val = q3.2.2 := by rw [Option.some.inj he]; rfl
      obtain ⟨q4, e4, f1, f2, f3⟩ := DX.pget rel hxi
      obtain ⟨dz, e5, f5⟩ := dpall_get hds (by rw [List.getElem?_map, e4]; rfl : (ws.map (·.2))[i]? = some q4.2)
      obtain ⟨cs, r2⟩ := Dp.reads I dz _ _ f5 f3
      have hsz2 := sds dz (List.mem_of_getElem? e5)
      rw [he2]
      refine SeqAt.eqAt_reads dz d X.A.in1 s' q3.2.2 v _ _ (Reads.keeps k r2) (Reads.keeps k r1) (SeqAt.canLay_of_shaped hsz2) (SeqAt.canLay_of_shaped sd) ?_ _ _ _ _ ?_
      · have h1 := SeqAt.depth_of_shaped hsz2
        show X.A.units + 1 + min dz.depth d.depth < cLine
        omega
      · have e0 : e i = PyData.eqv dz d := by show (ds[i]?.map _).getD false = _; rw [e5]; rfl
        rw [← e0]
        exact q'
  · refine wpAny_pure ⟨.bl _, H, I.kept k, rfl, ?_⟩
    have e1 : (List.range' 0 es.size).any e = ds.any fun z => PyData.eqv z d := by
      rw [hsz]
      refine any_range' _ _ ds 0 fun j y hy => ?_
      show (ds[0 + j]?.map _).getD false = _
      rw [Nat.zero_add, hy]
      rfl
    rw [e1]
    exact q
end
end
section
open PySem PySem.Spec L2
variable {X : Cx} {δ δ1 δ2 : DSt} {o e : Expr} {pos apos cpos : Pos} {d : PyData}
theorem Vd.vals {B : Hp} {κ : Type} [DecidableEq κ] {ws : List (κ × V)} {kvs : List (κ × PyData)} (h : Vd B ws kvs) : DdAll B (ws.map (·.2)) (kvs.map (·.2)) := h.vs
theorem je_inValsT {kvs : List (List L2.Key × PyData)} (hc : X.calm = true) (hu : X.A.units + 65 < cLine) (he : JE X e δ δ1 (aD d)) (ho : JE X o δ1 δ2 (aMT kvs)) (sd : SeqAt.shaped d = true) (sds : ∀ z ∈ kvs, SeqAt.shaped z.2 = true)
    (hm : behindInMarks .In (.Call (.Attribute o "values" apos) [] [] cpos) = false := by first | exact nobehind _ (by decide) (by decide) | rfl)
    (hbase : attributeBase o "values" X.env (eval o X.env) = eval o X.env := by rfl) (hline : (apos.endLine == cpos.line) = true := by rfl) :
    JE X (.Compare e [.In] [.Call (.Attribute o "values" apos) [] [] cpos] pos) δ δ2 (aB (kvs.any fun z => PyData.eqv z.2 d)) :=
  PE.imp (pe_cmpR (op_inVals hc hu) he (pe_bm0 PySem.F.plainAttrs_dict PySem.F.slot_dict_values PySem.F.type_dict_values mt_valsT ho hbase hline) hm) fun σ H Q ⟨F, B, E, q⟩ => ⟨F, B, E, fun x B1 H1 E1 s1 a1 => ⟨F, B1, E1, fun y B2 H2 E2 s2 ⟨a, ws, e1, h1, h2⟩ => by
    subst e1
    have hH := E2.bh _ _ h1
    have hpf := fun p (hp : H2 p = none) => E2.laid (o := valsO p a) hp
    refine ⟨.inr (.inr (.inl ⟨rfl, .inr ⟨_, hH⟩⟩)), a, ws, rfl, rfl, hH, fun p hp => ?_⟩
    have E3 := hpf p hp
    have s3 : Same B2 (upd B2 p (valsO p a)) := same_upd (E2.bh.free hp)
    have ne : a ≠ p := fun z => by rw [z, hp] at hH; cases hH
    refine ⟨p, a, ws, kvs.map (·.2), d, rfl, upd_same, by rw [upd_ne ne]; exact hH, DdAll.dp (E3.bh) _ _ (DdAll.mono s3 _ _ h2.vals), Dd.dp E3.bh _ _ (Dd.mono (s2.trans s3) _ _ a1), sd, fun z hz => ?_, ?_⟩
    · obtain ⟨y, hy, rfl⟩ := List.mem_map.mp hz
      exact sds y hy
    · have r := q (.bl ((kvs.map (·.2)).any fun z => PyData.eqv z d)) _ _ E3 ((s1.trans s2).trans s3) ?_
      · exact r
      · rw [List.any_map]
        exact .bl _⟩⟩
end
end J
/-! sorted(d), d a dict by tuples. -/
namespace J
open PySem PySem.Spec PyProof.Rows L2
theorem paired_fst {α β γ : Type} {R : α × β → α × γ → Prop} : ∀ {l : List (α × β)} {m : List (α × γ)}, Paired (fun p q => p.1 = q.1 ∧ R p q) l m → l.map (·.1) = m.map (·.1)
  | _, _, .nil => rfl
  | _, _, .cons h t => by rw [List.map_cons, List.map_cons, h.1, paired_fst t]
theorem kt_mem {H : Hp} : ∀ {ws : List (List L2.Key × V)} {kk : List (List L2.Key × Addr × Value)}, L2.KT H ws kk → ∀ {x}, x ∈ kk → H x.2.1 = some (.tup (x.1.map kV))
  | _, _, .cons h t, x, m => by
    rcases List.mem_cons.mp m with e | m
    · rw [e, ← h.1]
      exact h.2.1
    · exact kt_mem t m
theorem DdAll.ofKeys {B : Hp} : ∀ (k : List L2.Key), DdAll B (k.map kV) (k.map kD)
  | [] => .nil
  | x :: k => .cons (Dd.ofKey x) (DdAll.ofKeys k)
theorem ddall_of {α : Type} {B : Hp} {f : α → V} {g : α → PyData} : ∀ {l : List α}, (∀ x ∈ l, Dd B (f x) (g x)) → DdAll B (l.map f) (l.map g)
  | [], _ => .nil
  | x :: l, h => .cons (h x List.mem_cons_self) (ddall_of fun y hy => h y (List.mem_cons_of_mem _ hy))
section
variable {X : Cx}
def rSortDT : List V → Hp → VK → Prop := fun vs H Q => ∃ (B : Hp) (a : Addr) (ws : List (List L2.Key × V)) (ks : List (List L2.Key)) (out : List PyData), vs = [.ref a] ∧ TupIn B H ∧ Same B H ∧ H a = some (.dT ws) ∧ ws.map (·.1) = ks ∧ SrtOk (ks.map fun k => PyData.tuple (k.map kD)) ∧ True ∧
  out.Perm (ks.map fun k => PyData.tuple (k.map kD)) ∧ out.Pairwise LeP ∧ ∀ p ys, H p = none → DdAll B ys out → Q (.ref p) (upd H p (.lst ys))
theorem cr_sortDT (hc : X.calm = true) (hu : X.A.units + 68 < cLine) : CallR X (.builtin "sorted") rSortDT := by
  intro pins s σ H vs us Q I r h
  obtain ⟨B, a, ws, ks, out, rfl, tin, sB, ha, hks, so, hlen, pm, pw, q⟩ := h
  rw [Vals.ref1 r]
  obtain ⟨z, hs, kk, pr, o, es, ep, ho, hx, hdt, he, hn⟩ := (show ObjOk X.prog X.w H s.heap a (.dT ws) from I.hok a _ ha)
  have l1 : es.size = kk.length := size_of_entries he
  have l2 : ws.length = kk.length := Paired.length pr
  let xs : List V := kk.map fun x => V.ref x.2.1
  let ds : List PyData := ks.map fun k => PyData.tuple (k.map kD)
  have hkk : kk.map (·.1) = ks := by
    rw [← hks]
    exact (paired_fst pr).symm
  have dd : DdAll B xs ds := by
    show DdAll B (kk.map _) (ks.map _)
    rw [← hkk, List.map_map]
    refine ddall_of fun x hx' => ?_
    have hw' := kt_mem pr hx'
    have h1 := tin _ _ hw'
    have h2 : (x.1.map kV).length ≤ sizeLine := (show ObjOk X.prog X.w H s.heap x.2.1 (.tup _) from I.hok _ _ hw').1
    exact .tup h1 (by rw [List.length_map] at h2 ⊢; exact h2) (DdAll.ofKeys _)
  have hlen' : ds.length ≤ sizeLine := by
    show (ks.map _).length ≤ sizeLine
    rw [List.length_map, ← hks, List.length_map]
    exact z
  have perm2 : ∀ bs : List (V × PyData), bs.Perm (xs.zip ds) → (bs.map (·.2)).Perm ds := fun bs p => by
    have e := p.map (·.2)
    rw [List.map_snd_zip (by rw [dd.len]; exact Nat.le_refl _)] at e
    exact e
  refine sorted_coll (β := V × PyData) (R := fun v b => RelV b.1 v ∧ Dd B b.1 b.2) (enc := (·.2)) (fun bs => bs.Perm (xs.zip ds)) (fun Q' E' k => ?_) (fun v b ⟨r1, r2⟩ => ?_) (fun bs p => ?_) (fun bs p d hd e he => ?_) (fun bs p => ?_) (fun bs p b hb => ?_) fun bs s' p o c g k hp g1 o1 hg e => ?_
  · refine PySem.W.kdu_collect (A := X.A.in1) (kdl_raw hs hx hdt) (I.ok.hd hc) ho (by omega) fun h' tk acc kp it => ?_
    have ea : acc.toList = kk.map fun x => Value.ref x.2.1 := by
      have hl : acc.toList.length = kk.length := by rw [Array.length_toList, it.1]; exact l1
      apply List.ext_getElem?
      intro j
      rw [List.getElem?_map]
      cases hj : acc.toList[j]? with
      | none =>
        have h1 := List.getElem?_eq_none_iff.mp hj
        rw [List.getElem?_eq_none (by omega)]
        rfl
      | some v =>
        obtain ⟨en, hen, hv⟩ := it.2 j v (by rw [← Array.getElem?_toList]; exact hj)
        have qe := entry_at he j
        rw [hen] at qe
        cases hb : kk[j]? with
        | none =>
          rw [hb] at qe
          exact nomatch (show some en = none from qe)
        | some b =>
          rw [hb] at qe
          have e2 : en = entryOfKey (tupleKind (mixKind X.prog X.w)) b := Option.some.inj qe
          rw [hv, e2]
          rfl
    have rv : Vals xs acc.toList := by
      rw [ea]
      have r0 := vals_refs (kk.map fun x => x.2.1)
      rw [List.map_map, List.map_map] at r0
      exact r0
    exact k _ (xs.zip ds) _ kp rfl rfl (List.Perm.refl _) (each_vals rv dd)
  · exact Dp.reads I b.2 b.1 v (Dd.dp sB _ _ r2) r1
  · rw [p.length_eq, List.length_zip, dd.len, Nat.min_self]
    exact hlen'
  · exact cmp_alike _ _ (so.cmp d ((perm2 bs p).mem_iff.mp hd) e ((perm2 bs p).mem_iff.mp he))
  · refine so.kind.imp (fun z d hd => z d ((perm2 bs p).mem_iff.mp hd)) fun z d hd => z d ((perm2 bs p).mem_iff.mp hd)
  · have sh := so.shp b.2 ((perm2 bs p).mem_iff.mp (List.mem_map.mpr ⟨b, hb, rfl⟩))
    have := SeqAt.depth_of_shaped sh
    omega
  · obtain ⟨rv, dd'⟩ := each_out e
    have pm' : ((bs.mergeSort (PySem.W.dataLe false (·.2))).map (·.2)).Perm ds := ((List.mergeSort_perm bs _).map fun b : V × PyData => b.2).trans (perm2 bs g)
    have pw' : ((bs.mergeSort (PySem.W.dataLe false (·.2))).map (·.2)).Pairwise LeP := by
      refine List.pairwise_map.mpr ((PySem.W.sort_pairwise (PySem.W.sortLe_total _ false _) bs).imp_of_mem fun {x y} hx hy le => ?_)
      have mx : x.2 ∈ ds := (perm2 bs g).mem_iff.mp (List.mem_map.mpr ⟨x, (List.mergeSort_perm _ _).mem_iff.mp hx, rfl⟩)
      have my : y.2 ∈ ds := (perm2 bs g).mem_iff.mp (List.mem_map.mpr ⟨y, (List.mergeSort_perm _ _).mem_iff.mp hy, rfl⟩)
      have le' : (!PySem.W.dataLt y.2 x.2) = true := le
      rw [dataLt_ltD _ _ (so.cmp _ my _ mx)] at le'
      simpa using le'
    have eo := sorted_one (fun d hd e he => so.cmp d (pm'.mem_iff.mp hd) e (pm'.mem_iff.mp he)) pw' pw (pm'.trans pm.symm)
    rw [eo] at dd'
    have hn : H p = none := I.hok.gone hp
    have lenY : ((bs.mergeSort (PySem.W.dataLe false (·.2))).map (·.1)).length ≤ sizeLine := by
      rw [dd'.len, pm.length_eq]
      exact hlen'
    have J : L2.Inv X pins σ (upd H p (.lst ((bs.mergeSort (PySem.W.dataLe false (·.2))).map (·.1)))) { s with heap := s'.heap, gens := s'.gens, drawn := s'.drawn, toks := s'.toks } :=
      I.call (ch := []) (Un.laidN k hp hn) (I.hok.laidN k hn ⟨lenY, o.toList, c, rv, by simpa using hg⟩) (by rw [g1]; exact I.bare) (fun _ z => nomatch z)
    have es : s' = { s with heap := s'.heap, gens := s'.gens, drawn := s'.drawn, toks := s'.toks } := by
      cases s'
      cases s
      cases o1
      rfl
    rw [es]
    exact ⟨.ref p, _, J, rfl, q p _ hn dd'⟩
theorem je_sortedDT {δ δ1 : DSt} {e : Expr} {pos p : Pos} {kvs : List (List L2.Key × PyData)} (out : List PyData) (so : SrtOk (kvs.map fun kv => PyData.tuple (kv.1.map kD))) (pm : out.Perm (kvs.map fun kv => PyData.tuple (kv.1.map kD))) (pw : out.Pairwise LeP) (hm : X.mg "sorted" = none) (hc : X.calm = true) (hu : X.A.units + 68 < cLine) (hl : kvs.length ≤ sizeLine) (h : JE X e δ δ1 (aMT kvs)) (hg : Gl X "sorted" := by rfl)
    (he : starEach [e] X.env = (false, eval e X.env) :: starEach [] X.env := by rfl) : JE X (.Call (.Name "sorted" p) [e] [] pos) δ δ1 (aD (.list out)) :=
  PE.imp (pe_callB (cr_sortDT hc hu) hg hm PyProof.Rows.boot_sorted (ja_cons h ja_nil he) (by decide) (by decide) he rfl) fun σ H Q ⟨F, B, E, q⟩ => ⟨F, B, E, fun vs B1 H1 E1 s1 aa => by
    obtain ⟨v, rfl, hv⟩ := all2_one aa
    obtain ⟨a, ws, rfl, h2, h3⟩ := hv
    have E2 := E1.tups
    obtain ⟨t1, t2⟩ := tups_same E1.bh
    have ek : (kvs.map (·.1)).map (fun k => PyData.tuple (k.map kD)) = kvs.map fun kv => PyData.tuple (kv.1.map kD) := by rw [List.map_map]; rfl
    refine ⟨tups B1 H1, a, ws, kvs.map (·.1), out, rfl, fun a xs => tupB_of, t2, E1.bh _ _ h2, h3.ks, by rw [ek]; exact so, trivial, by rw [ek]; exact pm, pw, fun p ys hp dy => ?_⟩
    have E3 := E2.laid (o := .lst ys) hp
    have s3 : Same (tups B1 H1) (upd (tups B1 H1) p (.lst ys)) := same_upd (E2.bh.free hp)
    refine q _ _ _ E3 ((s1.trans t1).trans s3) (.lst upd_same ?_ (DdAll.mono s3 _ _ dy))
    rw [pm.length_eq, List.length_map]
    exact hl⟩
end
end J
/-! Defs whose first argument (or what goes with it) is lent: it may change while they run. -/
namespace J
open PySem PySem.Spec L2

abbrev RlM := MV → MV → List AV → Option AV → Prop
def Own1 (B H : Hp) (R : List Addr) : Prop := ∀ a ∈ R, B a = none ∧ H a ≠ none ∧ ∀ xs, H a ≠ some (.tup xs)
/-- all is kept but R -/
def KeepR (B H : Hp) (R : List Addr) (B' H' : Hp) : Prop := ∀ a o, H a = some o → B a = none → a ∉ R → H' a = some o ∧ B' a = none
def spM (C : Value) (R : RlM) : Sp := fun vs H Q Ex => ∃ B M M' As Z v0 vr RR, vs = v0 :: vr ∧ (Same B H ∧ TupIn B H) ∧ M.p B H v0 RR ∧ Own1 B H RR ∧ All2 (fun (A : AV) v => A.p B v) As vr ∧ R M M' As Z ∧
  (∀ v B' H' Z', Z = some Z' → Same B B' → Same B' H' → KeepR B H RR B' H' → M'.p B' H' v0 RR → Own1 B' H' RR → Z'.p B' v → Q v H') ∧
  (∀ d B' H', Z = none → Same B B' → Same B' H' → KeepR B H RR B' H' → M'.p B' H' v0 RR → Own1 B' H' RR → Ex C d H')
/-- it tells its value and what it owns -/
def Prec (M : MV) (v0 : V) (RR : List Addr) : Prop := ∀ B H v R, M.p B H v R → v = v0 ∧ R = RR
def restR (B H : Hp) (RR : List Addr) : Hp := fun a => if a ∈ RR then none else rest B H a
theorem restR_some {B H : Hp} {RR : List Addr} {a : Addr} {o : HO} (h : restR B H RR a = some o) : a ∉ RR ∧ H a = some o ∧ B a = none := by
  unfold restR at h
  by_cases q : a ∈ RR
  · rw [if_pos q] at h
    cases h
  · rw [if_neg q] at h
    exact ⟨q, rest_some h⟩
theorem restR_of {B H : Hp} {RR : List Addr} {a : Addr} {o : HO} (h : H a = some o) (hb : B a = none) (n : a ∉ RR) : restR B H RR a = some o := by
  unfold restR
  rw [if_neg n]
  exact rest_of h hb
def d0M (N : List Str) (M : MV) (As : List AV) : DSt := some (.mut M) :: (As.map (fun A => some (Cell.val A)) ++ List.replicate (N.length - (As.length + 1)) none)
theorem env_startM {N : List Str} {B H : Hp} {As : List AV} {v0 : V} {vr : List V} {M : MV} {RR : List Addr} (s : Same B H ∧ TupIn B H) (hM : M.p B H v0 RR) (ho : Own1 B H RR) (h : All2 (fun (A : AV) v => A.p B v) As vr) : Env (restR B H RR) B H (L2.start N (v0 :: vr)) (d0M N M As) := by
  refine ⟨fun j => if j = 0 then RR else [], ⟨s.1, fun a o z => (restR_some z).2, ?_, fun i c hi => ?_, fun i a z => ?_, fun i j a z1 z2 => ?_, fun a xs z => ?_, fun i a xs z => ?_⟩⟩
  · unfold L2.start d0M
    simp only [List.length_append, List.length_cons, List.length_map, List.length_replicate, h.length]
    omega
  · cases i with
    | zero =>
      cases hi
      exact ⟨v0, rfl, hM⟩
    | succ i =>
      have hi2 : (As.map (fun A => some (Cell.val A)) ++ List.replicate (N.length - (As.length + 1)) none)[i]? = some (some c) := hi
      have hl := h.length
      by_cases q : i < As.length
      · rw [List.getElem?_append_left (by rw [List.length_map]; exact q), List.getElem?_map, List.getElem?_eq_getElem q] at hi2
        cases hi2
        obtain ⟨v, h1, h2⟩ := h.get (List.getElem?_eq_getElem q)
        refine ⟨v, ?_, h2⟩
        show ((v0 :: vr).map some ++ _)[i + 1]? = _
        rw [List.getElem?_append_left (by rw [List.length_map, List.length_cons]; omega), List.getElem?_map, List.getElem?_cons_succ, h1]
        rfl
      · rw [List.getElem?_append_right (by rw [List.length_map]; omega)] at hi2
        obtain ⟨_, e⟩ := List.getElem?_eq_some_iff.mp hi2
        rw [List.getElem_replicate] at e
        cases e
  · have z' : a ∈ (if i = 0 then RR else []) := z
    by_cases q : i = 0
    · rw [if_pos q] at z'
      obtain ⟨h1, h2, h3⟩ := ho a z'
      refine ⟨h1, h2, ?_⟩
      unfold restR
      rw [if_pos z']
    · rw [if_neg q] at z'
      cases z'
  · have z1' : a ∈ (if i = 0 then RR else []) := z1
    have z2' : a ∈ (if j = 0 then RR else []) := z2
    by_cases q : i = 0
    · by_cases u : j = 0
      · rw [q, u]
      · rw [if_neg u] at z2'
        cases z2'
    · rw [if_neg q] at z1'
      cases z1'
  · obtain ⟨_, z1, z2⟩ := restR_some z
    rw [s.2 a xs z1] at z2
    cases z2
  · have z' : a ∈ (if i = 0 then RR else []) := z
    by_cases q : i = 0
    · rw [if_pos q] at z'
      exact (ho a z').2.2 xs
    · rw [if_neg q] at z'
      cases z'
/-- hand back such a thing, the lent one as M' -/
def RetM (M' : MV) (Z : AV) : Out := { rt := fun A => ∀ B v, A.p B v → Z.p B v, nx := fun δ => δ[0]? = some (some (.mut M')) ∧ ∀ B, Z.p B .non, rk := fun δ => δ[0]? = some (some (.mut M')) }
section
variable {P : Program} {w : World} {K : PySem.W.Frag} {mg : Str → Option Value} {base : Heap}
theorem end_own {F B H : Hp} {σ : L2.St} {δ : DSt} {M' : MV} {v0 : V} {RR : List Addr} (E : Env F B H σ δ) (h : δ[0]? = some (some (.mut M'))) (pr : Prec M' v0 RR) : M'.p B H v0 RR ∧ Own1 B H RR := by
  obtain ⟨Rg, e⟩ := E
  obtain ⟨v, h1, h2⟩ := e.sl 0 _ h
  obtain ⟨e1, e2⟩ := pr _ _ _ _ h2
  subst e1 e2
  exact ⟨h2, fun a ha => ⟨(e.rg 0 a ha).1, (e.rg 0 a ha).2.1, fun xs => e.rt 0 a xs ha⟩⟩
theorem fn_jM {x qual : Str} {st : Stmt} {f : Addr} {fd : FuncData} {N ps : List Str} {k : Nat} {C : Value} {R : RlM} (F : Fun K x qual st f fd) (S : FnScope N ps (defScope st)) (hl : ∀ M M' As Z, R M M' As Z → As.length + 1 = ps.length ∧ Z ≠ none ∧ ∀ B H v RR, M.p B H v RR → Prec M' v RR)
    (body : ∀ (cdv : Value) (A : Around) (outer : List PySem.Env) (s : Shared) (H : Hp) (E : XK) (M M' : MV) (As : List AV) (Z : AV), Room k (A.deeper (PyProof.Rows.envOfC qual (defScope st) s.heap.objs.size f cdv)) → R M M' As (some Z) →
      JB (cxOf CX0 P w K mg base N qual (defScope st) f cdv A outer s H E).nox (defBody st) (d0M N M As) (RetM M' Z)) : FnOk P w K mg base CX0 (k + 1) f fd ps (spM C R) := by
  refine F.ok S (fun vs H Q E ⟨B, M, M', As, Z, v0, vr, RR, e, _, _, _, h, r, _⟩ => by rw [e, List.length_cons, ← h.length]; exact (hl M M' As Z r).1) fun cdv A outer s H vs Q E hr ⟨B, M, M', As, Z, v0, vr, RR, e, sB, hM, ho, h, r, q, _⟩ => ?_
  subst e
  obtain ⟨_, hz, hp⟩ := hl M M' As Z r
  obtain ⟨Z', rfl⟩ : ∃ Z', Z = some Z' := by
    cases Z with
    | none => exact absurd rfl hz
    | some Z' => exact ⟨Z', rfl⟩
  have pr := hp _ _ _ _ hM
  refine ⟨_, body cdv A outer s H E M M' As Z' hr r, restR B H RR, B, env_startM sB hM ho h, ?_, ?_, ?_, ?_⟩
  · intro δ' σ' B' H' hn E' s'
    obtain ⟨h1, h2⟩ := end_own E' hn.1 pr
    exact q .non B' H' Z' rfl s' E'.bh (fun a o z1 z2 z3 => E'.fr a o (restR_of z1 z2 z3)) h1 h2 (hn.2 B')
  · intro A' v B' H' hr' ⟨σ', δ', hk, E'⟩ s' a'
    obtain ⟨h1, h2⟩ := end_own E' hk pr
    exact q v B' H' Z' rfl s' E'.bh (fun a o z1 z2 z3 => E'.fr a o (restR_of z1 z2 z3)) h1 h2 (hr' B' v a')
  · exact fun _ _ _ _ z => z.elim
  · exact fun _ _ _ _ z => z.elim
structure CalM (CX : CXT) (P : Program) (w : World) (K : PySem.W.Frag) (mg : Str → Option Value) (base : Heap) (k : Nat) (x : Str) (C : Value) (R : RlM) : Prop where
  ex : ∃ f fd ps, FnOk P w K mg base CX k f fd ps (spM C R) ∧ mg x = some (.ref f) ∧ PySem.W.keepIn K (.ref f) = true ∧ Binds K fd ps []
theorem CalM.mono {CX : CXT} {j k : Nat} {x : Str} {C : Value} {R : RlM} (Cl : CalM CX P w K mg base j x C R) (h : j ≤ k) : CalM CX P w K mg base k x C R := by
  obtain ⟨f, fd, ps, h1, h2, h3, h4⟩ := Cl.ex
  exact ⟨f, fd, ps, h1.mono h, h2, h3, h4⟩
end
/-- behind a step that leaves all but RR -/
theorem EnvR.stepR {F B H B' H' : Hp} {σ : L2.St} {δ : DSt} {n : Nat} {M M' : MV} {RR : List Addr} {v : V} {Rg : Nat → List Addr} (e : EnvR F B H σ δ Rg) (h0 : δ[n]? = some (some (.mut M))) (h1 : σ[n]? = some (some v)) (s : Same B B') (s' : Same B' H') (k : KeepR B H RR B' H')
    (sub : ∀ a ∈ RR, a ∈ Rg n) (ow : Own1 B' H' RR) (hM' : M'.p B' H' v (Rg n)) : Env F B' H' σ (δ.set n (some (.mut M'))) := by
  have nR : ∀ j a, a ∈ Rg j → j ≠ n → a ∉ RR := fun j a ha hj z => hj (e.dj j n a ha (sub a z))
  have kp : ∀ j a, a ∈ Rg j → a ∉ RR → H' a = H a ∧ B' a = none := fun j a ha nr => by
    obtain ⟨q1, q2, q3⟩ := e.rg j a ha
    cases q : H a with
    | none => exact absurd q q2
    | some x => exact k a x q q1 nr
  refine ⟨Rg, ⟨s', fun a x z => ?_, by rw [List.length_set]; exact e.len, fun j c hj => ?_, fun j a ha => ?_, e.dj, e.ft, fun j a xs ha => ?_⟩⟩
  · obtain ⟨z1, z2⟩ := e.fr a x z
    exact k a x z1 z2 fun m => by
      have := (e.rg n a (sub a m)).2.2
      rw [z] at this
      cases this
  · by_cases q : n = j
    · subst q
      rw [List.getElem?_set_self (List.getElem?_eq_some_iff.mp h0).1] at hj
      cases hj
      exact ⟨v, h1, hM'⟩
    · rw [List.getElem?_set_ne q] at hj
      obtain ⟨u, k1, k2⟩ := e.sl j c hj
      exact ⟨u, k1, k2.mono s fun a ha => (kp j a ha (nR j a ha (Ne.symm q))).1⟩
  · obtain ⟨q1, q2, q3⟩ := e.rg j a ha
    by_cases m : a ∈ RR
    · exact ⟨(ow a m).1, (ow a m).2.1, q3⟩
    · obtain ⟨k1, k2⟩ := kp j a ha m
      exact ⟨k2, by rw [k1]; exact q2, q3⟩
  · by_cases m : a ∈ RR
    · exact (ow a m).2.2 xs
    · rw [(kp j a ha m).1]
      exact e.rt j a xs ha
section
variable {X : Cx} {F B B' H H' : Hp} {δ δ1 δ2 : DSt} {A Z : AV} {e : Expr} {es : List Expr} {pos p p0 : Pos} {As : List AV} {M M0 M' M1 : MV}
/-- f(x, ..): x a thing of one's own, lent -/
theorem je_callM {x y : Str} {k j : Nat} {C : Value} {R : RlM} (n : Nat) (Cl : CalM CX0 X.prog X.w X.K X.mg X.base k x C R) (hr : Room j X.A) (hk : k ≤ j) (ha : JA X es δ δ1 As) (h0 : δ[n]? = some (some (.mut M0))) (h1 : δ1[n]? = some (some (.mut M))) (h : R M M' As (some Z))
    (hN : X.N[n]? = some y := by rfl) (hv : Vis X.env.scope y := by first | exact Or.inl rfl | exact Or.inr (Or.inl rfl) | exact Or.inr (Or.inr rfl)) (hd : (y == ("__debug__" : Str)) = false := by decide) (hcd : (y == ("__classdict__" : Str)) = false := by decide)
    (hg : Gl X x := by rfl) (hdb : (x == ("__debug__" : Str)) = false := by decide) (hst : starEach (.Name y p0 :: es) X.env = (false, eval (.Name y p0) X.env) :: starEach es X.env := by rfl) (hpl : (backTo pos (starEach es X.env)).any (·.1) = false := by rfl) :
    JE X (.Call (.Name x p) (.Name y p0 :: es) [] pos) δ (δ1.set n (some (.mut M'))) Z := by
  obtain ⟨f, fd, ps, g1, g2, g3, g4⟩ := Cl.ex
  refine PE.imp (pe_call g1 (hr.mono hk) hg g2 g3 g4 .nil pass0 (pa_cons (pe_var hN hv hd hcd) ha) hdb hst hpl) fun σ H Q ⟨F, B, E, q⟩ => ?_
  obtain ⟨v0, R0, e1, _, _⟩ := E.wr h0
  refine ⟨v0, e1, F, B, E, fun vs B1 H1 E1 s1 a1 => ?_⟩
  refine (show spM C R (v0 :: vs ++ []) H1 Q E0 from ?_)
  rw [List.append_nil]
  have E2 := E1.tups
  obtain ⟨t1, t2⟩ := tups_same E1.bh
  obtain ⟨Rg, e⟩ := id E2
  obtain ⟨v, z1, z2⟩ := e.sl n _ h1
  have ev : v = v0 := by
    rw [e1] at z1
    cases z1
    rfl
  subst ev
  refine ⟨tups B1 H1, M, M', As, some Z, v, vs, Rg n, rfl, ⟨t2, fun a xs => tupB_of⟩, z2, fun a ha => ⟨(e.rg n a ha).1, (e.rg n a ha).2.1, fun xs => e.rt n a xs ha⟩, a1.imp fun A v => A.mono t1, h, fun u B2 H2 Z' eZ s2 s3 k2 m2 o2 zz => ?_, fun d B2 H2 eZ => by cases eZ⟩
  cases eZ
  have E3 : Env F B2 H2 σ (δ1.set n (some (.mut M'))) := by
    exact e.stepR h1 z1 s2 s3 k2 (fun a ha => ha) o2 m2
  exact q u B2 H2 E3 ((s1.trans t1).trans s2) zz
end
end J
/-! What is lent: the tables of lambdas, the source of draws. -/
namespace J
open PySem PySem.Spec L2
/-! ### tables -/
def q0 : Str := "hardest_first.<locals>.<lambda>"
def TabG (B H : Hp) (T : List Addr) : Prop := ∀ P ∈ T, ∃ ps : Array Value, H P = some (.tbl ps) ∧ TriplesOk ps.toList ∧ ∀ (pos : Pos) (cv : Value), codeAmong pos ps.toList = some cv → ∃ c, cv = .ref c ∧ B c = some (LamX.CodeO c q0)
theorem TabG.mono {B B' H H' : Hp} {T : List Addr} (t : TabG B H T) (s : Same B B') (k : ∀ a ∈ T, H' a = H a) : TabG B' H' T := fun P hP => by
  obtain ⟨ps, h1, h2, h3⟩ := t P hP
  refine ⟨ps, (k P hP).trans h1, h2, fun pos cv hc => ?_⟩
  obtain ⟨c, e1, e2⟩ := h3 pos cv hc
  exact ⟨c, e1, s _ _ e2⟩
/-- a value that is v0, and the tables T with it -/
def mTb (v0 : V) (T : List Addr) (A : AV) : MV := ⟨fun B H v R => v = v0 ∧ R = T ∧ A.p B v ∧ TabG B H T, fun s k ⟨h1, h2, h3, h4⟩ => ⟨h1, h2, A.mono s h3, h4.mono s fun a ha => k a (by rw [h2]; exact ha)⟩⟩
theorem mTb_prec {v0 : V} {T : List Addr} {A : AV} : ∀ B H v RR, (mTb v0 T A).p B H v RR → Prec (mTb v0 T A) v RR := fun B H v RR ⟨h1, h2, _, _⟩ B' H' v' R' ⟨k1, k2, _, _⟩ => ⟨by rw [k1, h1], by rw [k2, h2]⟩
/-- the source of draws: a great number, a number, how many were drawn without the great one -/
structure Tin where
  g : Int
  k : Int
  c : Int
def Tin.ds (t : Tin) : List V := [.int t.g, .int t.k, .int t.c]
def mTin (a : Addr) (T : List Addr) (t : Tin) : MV := ⟨fun B H v R => v = .ref a ∧ R = a :: T ∧ H a = some (.lst t.ds) ∧ TabG B H T, fun s k ⟨h1, h2, h3, h4⟩ => ⟨h1, h2, (k a (by rw [h2]; exact List.mem_cons_self)).trans h3, h4.mono s fun b hb => k b (by rw [h2]; exact List.mem_cons_of_mem _ hb)⟩⟩
theorem mTin_prec {a : Addr} {T : List Addr} {t t' : Tin} : ∀ B H v RR, (mTin a T t).p B H v RR → Prec (mTin a T t') v RR := fun B H v RR ⟨h1, h2, _, _⟩ B' H' v' R' ⟨k1, k2, _, _⟩ => ⟨by rw [k1, h1], by rw [k2, h2]⟩
/-- it holds the tables and lends them -/
def Lnd (M : MV) (T : List Addr) : Prop := ∀ B H v R, M.p B H v R → (∀ a ∈ T, a ∈ R) ∧ TabG B H T ∧ ∀ B' H', Same B B' → (∀ a ∈ R, a ∉ T → H' a = H a) → TabG B' H' T → M.p B' H' v R
theorem lnd_Tb {v0 : V} {T : List Addr} {A : AV} : Lnd (mTb v0 T A) T := fun B H v R ⟨h1, h2, h3, h4⟩ => ⟨fun a ha => by rw [h2]; exact ha, h4, fun B' H' s k t => ⟨h1, h2, A.mono s h3, t⟩⟩
theorem lnd_Tin {a : Addr} {T : List Addr} {t : Tin} : Lnd (mTin a T t) T := fun B H v R ⟨h1, h2, h3, h4⟩ => ⟨fun b hb => by rw [h2]; exact List.mem_cons_of_mem _ hb, h4, fun B' H' s k t => ⟨h1, h2, (k a (by rw [h2]; exact List.mem_cons_self) fun z => by
  obtain ⟨ps, q, _⟩ := h4 a z
  rw [h3] at q
  cases q).trans h3, t⟩⟩
section
variable {X : Cx} {F B B' H H' : Hp} {δ δ1 δ2 : DSt} {A Z : AV} {e i : Expr} {es : List Expr} {pos p p0 : Pos} {As : List AV} {M M0 M' M1 : MV} {O : Out} {sts : List Stmt}
/-- a variable whose value is data beside what is lent -/
theorem je_vM {y : Str} (n : Nat) (h : δ[n]? = some (some (.mut M))) (hM : ∀ B H v R, M.p B H v R → A.p B v) (hN : X.N[n]? = some y := by rfl) (hv : Vis X.env.scope y := by first | exact Or.inl rfl | exact Or.inr (Or.inl rfl) | exact Or.inr (Or.inr rfl)) (hd : (y == ("__debug__" : Str)) = false := by decide) (hcd : (y == ("__classdict__" : Str)) = false := by decide) :
    JE X (.Name y p) δ δ A := PE.imp (pe_var hN hv hd hcd) fun σ H Q ⟨F, B, E, q⟩ => by
  obtain ⟨v, R, e1, e2, _, _⟩ := E.wr h
  exact ⟨v, e1, q v B H E (Same.refl _) (hM _ _ _ _ e2)⟩
theorem je_vT {y : Str} {v0 : V} {T : List Addr} (n : Nat) (h : δ[n]? = some (some (.mut (mTb v0 T A))) := by rfl) (hN : X.N[n]? = some y := by rfl) (hv : Vis X.env.scope y := by first | exact Or.inl rfl | exact Or.inr (Or.inl rfl) | exact Or.inr (Or.inr rfl)) (hd : (y == ("__debug__" : Str)) = false := by decide) (hcd : (y == ("__classdict__" : Str)) = false := by decide) :
    JE X (.Name y p) δ δ A := je_vM n h (fun B H v R ⟨_, _, h3, _⟩ => h3) hN hv hd hcd
theorem set_same {δ : DSt} {n : Nat} {c : Option Cell} (h : δ[n]? = some c) : δ.set n c = δ := set_at h
/-- f(e, ..): the tables are lent -/
theorem je_callT {x : Str} {k j : Nat} {C : Value} {R : RlM} {T : List Addr} (n : Nat) (Cl : CalM CX0 X.prog X.w X.K X.mg X.base k x C R) (hr : Room j X.A) (hk : k ≤ j) (ha : JA X (e :: es) δ δ1 (A :: As)) (h1 : δ1[n]? = some (some (.mut M))) (L : Lnd M T) (h : ∀ v0, R (mTb v0 T A) (mTb v0 T A) As (some Z))
    (hg : Gl X x := by rfl) (hdb : (x == ("__debug__" : Str)) = false := by decide) (hst : starEach (e :: es) X.env = (false, eval e X.env) :: starEach es X.env := by rfl) (hpl : (backTo pos (starEach es X.env)).any (·.1) = false := by rfl) :
    JE X (.Call (.Name x p) (e :: es) [] pos) δ δ1 Z := by
  obtain ⟨f, fd, ps, g1, g2, g3, g4⟩ := Cl.ex
  refine PE.imp (pe_call g1 (hr.mono hk) hg g2 g3 g4 .nil pass0 ha hdb hst hpl) fun σ H Q ⟨F, B, E, q⟩ => ⟨F, B, E, fun vs B1 H1 E1 s1 a1 => ?_⟩
  refine (show spM C R (vs ++ []) H1 Q E0 from ?_)
  rw [List.append_nil]
  have E2 := E1.tups
  obtain ⟨t1, t2⟩ := tups_same E1.bh
  obtain ⟨Rg, e⟩ := id E2
  obtain ⟨v, z1, z2⟩ := e.sl n _ h1
  obtain ⟨L1, L2', L3⟩ := L _ _ _ _ z2
  cases a1 with
  | @cons _ v0 _ vr r t =>
    refine ⟨tups B1 H1, mTb v0 T A, mTb v0 T A, As, some Z, v0, vr, T, rfl, ⟨t2, fun a xs => tupB_of⟩, ⟨rfl, rfl, A.mono t1 r, L2'⟩, fun a ha => ⟨(e.rg n a (L1 a ha)).1, (e.rg n a (L1 a ha)).2.1, fun xs => e.rt n a xs (L1 a ha)⟩, t.imp fun A v => A.mono t1, h v0, fun u B2 H2 Z' eZ s2 s3 k2 m2 o2 zz => ?_, fun d B2 H2 eZ => by cases eZ⟩
    cases eZ
    have E3 := e.stepR (M' := M) h1 z1 s2 s3 k2 L1 o2 (L3 B2 H2 s2 (fun a ha na => by
      obtain ⟨q1, q2, q3⟩ := e.rg n a ha
      cases q : H1 a with
      | none => exact absurd q q2
      | some x => exact (k2 a x q q1 na).1) m2.2.2.2)
    rw [set_same h1] at E3
    exact q u B2 H2 E3 ((s1.trans t1).trans s2) zz
/-! ### the source -/
theorem je_tin {y : Str} {a : Addr} {T : List Addr} {t : Tin} {v : Int} {m : Nat} {j : Int} (n : Nat) (h : δ[n]? = some (some (.mut (mTin a T t)))) (hi : JE X i δ δ (aI j)) (hv' : atI t.ds j = some (V.int v)) (hN : X.N[n]? = some y := by rfl) (hv : Vis X.env.scope y := by first | exact Or.inl rfl | exact Or.inr (Or.inl rfl) | exact Or.inr (Or.inr rfl)) (hd : (y == ("__debug__" : Str)) = false := by decide) (hcd : (y == ("__classdict__" : Str)) = false := by decide) (hs : PlainIx i := by exact fun _ _ => rfl) :
    JE X (.Subscript (.Name y p0) i pos) δ δ (aI v) :=
  PE.imp (pe_ix ix_list (pe_var hN hv hd hcd) hi hs) fun σ H Q ⟨F, B, E, q⟩ => by
    obtain ⟨u, R, e1, ⟨e2, _, _, _⟩, _, _⟩ := E.wr h
    refine ⟨u, e1, F, B, E, fun y B2 H2 E2 s2 a2 => ?_⟩
    obtain ⟨u', R', f1, ⟨f2, f3, f4, f5⟩, _, _⟩ := E2.wr h
    exact ⟨a, t.ds, j, V.int v, e2, Dd.int_eq a2, SqL.of f4, hv', q _ B2 H2 E2 s2 (.int _)⟩
def Tin.put (t : Tin) (j : Nat) (v : Int) : Tin := match j with
  | 0 => { t with g := v }
  | 1 => { t with k := v }
  | _ => { t with c := v }
theorem js_tin {y : Str} {a : Addr} {T : List Addr} {t : Tin} {v j : Int} {m : Nat} {ps : Pos} (n : Nat) (he : JE X e δ δ1 (aI v)) (h : δ1[n]? = some (some (.mut (mTin a T t)))) (hi : JE X i δ1 δ1 (aI j)) (hj : ixN 3 j = some m) (hm : m < 3) (kk : O.nx (δ1.set n (some (.mut (mTin a T (t.put m v))))))
    (hN : X.N[n]? = some y := by rfl) (hv : Vis X.env.scope y := by first | exact Or.inl rfl | exact Or.inr (Or.inl rfl) | exact Or.inr (Or.inr rfl)) (hd : (y == ("__debug__" : Str)) = false := by decide) (hcd : (y == ("__classdict__" : Str)) = false := by decide)
    (hs : swapsWithSole [.Subscript (.Name y p0) i ps] e pos.line X.env = pure false := by rfl) (hw : swappedStores [.Subscript (.Name y p0) i ps] e X.env = pure none := by rfl) (h1 : (assignEach [.Subscript (.Name y p0) i ps] X.env).map (·.2) = [assign (.Subscript (.Name y p0) i ps) X.env] := by rfl)
    (ha : ∀ v, assign (.Subscript (.Name y p0) i ps) X.env v = (do
      let ov ← holding [v] (eval (.Name y p0) X.env)
      let iv ← holding [v, ov] (eval i X.env)
      standAt ps
      holding [v, ov, iv] (setItem ov iv v)
      release [v, ov, iv] []) := by intro _; rfl) : JS X (.Assign [.Subscript (.Name y p0) i ps] e pos) δ O :=
  PS.imp (ps_asg he (pg_sub (pe_var hN hv hd hcd) hi set_list ha) hs hw h1) fun D σ H ⟨F, B, E, nx, _, _, _⟩ => ⟨F, B, E, fun u B1 H1 E1 s1 a1 => by
    obtain ⟨w, R, e1, ⟨e2, _, _, _⟩, _, _⟩ := E1.wr h
    refine ⟨w, e1, F, B1, E1, fun y B2 H2 E2 s2 a2 => ?_⟩
    obtain ⟨v', R', f1, ⟨g1, g2, g3, g4⟩, _, up⟩ := E2.wr h
    have ev := Dd.int_eq a1
    refine ⟨a, t.ds, j, m, e2, Dd.int_eq a2, g3, hj, ?_⟩
    have ed : t.ds.set m u = (t.put m v).ds := by
      rw [ev]
      match m, hm with
      | 0, _ => rfl
      | 1, _ => rfl
      | 2, _ => rfl
    rw [ed]
    refine nx _ _ B2 _ kk (up a _ (mTin a T (t.put m v)) (by rw [g2]; exact List.mem_cons_self) (fun _ z => nomatch z) ⟨g1, g2, upd_same, g4.mono (Same.refl _) fun b hb => upd_ne fun z => ?_⟩) (s1.trans s2)
    obtain ⟨pp, k1, _⟩ := g4 b hb
    rw [z, g3] at k1
    cases k1⟩
end
end J
/-! Ints: * // % and bits; a draw. -/
namespace J
open PySem PySem.Spec L2
section
variable {X : Cx} {δ δ1 δ2 : DSt} {a b e : Expr} {pos p : Pos} {i j : Int}
theorem je_mul (ha : JE X a δ δ1 (aI i)) (hb : JE X b δ1 δ2 (aI j)) (h : CMulW i j) : JE X (.BinOp a .Mult b pos) δ δ2 (aI (i * j)) := je_op op_mulW (rop_I h) ha hb
theorem je_fdiv (ha : JE X a δ δ1 (aI i)) (hb : JE X b δ1 δ2 (aI j)) (h : CDivW i j) : JE X (.BinOp a .FloorDiv b pos) δ δ2 (aI (i / j)) := je_op op_fdivW (rop_I h) ha hb
theorem je_mod (ha : JE X a δ δ1 (aI i)) (hb : JE X b δ1 δ2 (aI j)) (h : 0 < j) : JE X (.BinOp a .Mod b pos) δ δ2 (aI (i % j)) := je_op op_mod (rop_I (Cn := fun _ j => 0 < j) h) ha hb
theorem je_bor {n m : Nat} (ha : JE X a δ δ1 (aI (n : Int))) (hb : JE X b δ1 δ2 (aI (m : Int))) : JE X (.BinOp a .BitOr b pos) δ δ2 (aI ((n ||| m : Nat) : Int)) := by
  have h := je_op (pos := pos) op_or (rop_I0 (g := Builtin.bitOr)) ha hb
  rw [bitOr_nn (Int.natCast_nonneg _) (Int.natCast_nonneg _)] at h
  exact h
theorem je_band {n m : Nat} (ha : JE X a δ δ1 (aI (n : Int))) (hb : JE X b δ1 δ2 (aI (m : Int))) : JE X (.BinOp a .BitAnd b pos) δ δ2 (aI ((n &&& m : Nat) : Int)) := by
  have h := je_op (pos := pos) op_and (rop_I0 (g := Builtin.bitAnd)) ha hb
  have e : Builtin.bitAnd (n : Int) (m : Int) = ((n &&& m : Nat) : Int) := by simp [Builtin.bitAnd]
  rw [e] at h
  exact h
theorem je_shl1 {k : Nat} (ha : JE X a δ δ1 (aI 1)) (hb : JE X b δ1 δ2 (aI (k : Int))) (h : k ≤ 1000) : JE X (.BinOp a .LShift b pos) δ δ2 (aI ((2 ^ k : Nat) : Int)) :=
  je_op op_oneShl (fun B H x y Q _ h1 h2 q => ⟨k, Dd.int_eq h1, Dd.int_eq h2, by omega, by
    have r := q (.int ((2 ^ k : Nat) : Int)) B H (.refl B H) (.int _)
    rw [Int.natCast_pow] at r
    exact r⟩) ha hb
theorem je_intI (hm : X.mg "int" = none) (h : JE X e δ δ1 (aI i)) (hg : Gl X "int" := by rfl) (he : starEach [e] X.env = (false, eval e X.env) :: starEach [] X.env := by rfl) : JE X (.Call (.Name "int" p) [e] [] pos) δ δ1 (aI i) :=
  je_Ty call_int1 PyProof.Rows.boot_int hm (fun B H vs Q s aa q => by
    obtain ⟨v, rfl, hv⟩ := all2_one aa
    exact .inl ⟨i, by rw [Dd.int_eq hv], q _ B H (.refl B H) (.int _)⟩) (ja_cons h ja_nil he) hg (by decide) (by decide) he rfl
theorem je_intB {b : Bool} (hm : X.mg "int" = none) (h : JE X e δ δ1 (aB b)) (hg : Gl X "int" := by rfl) (he : starEach [e] X.env = (false, eval e X.env) :: starEach [] X.env := by rfl) : JE X (.Call (.Name "int" p) [e] [] pos) δ δ1 (aI (if b then 1 else 0)) :=
  je_Ty call_int1 PyProof.Rows.boot_int hm (fun B H vs Q s aa q => by
    obtain ⟨v, rfl, hv⟩ := all2_one aa
    exact .inr ⟨b, by rw [Dd.bl_eq hv], q _ B H (.refl B H) (.int _)⟩) (ja_cons h ja_nil he) hg (by decide) (by decide) he rfl
theorem je_min2 (hm : X.mg "min" = none) (hc : X.calm = true) (h : JE X a δ δ1 (aI i)) (h' : JE X b δ1 δ2 (aI j)) (hg : Gl X "min" := by rfl) (he : starEach [a, b] X.env = (false, eval a X.env) :: starEach [b] X.env := by rfl) (he2 : starEach [b] X.env = (false, eval b X.env) :: starEach [] X.env := by rfl) (hpl : (backTo pos (starEach [b] X.env)).any (·.1) = false := by rfl) : JE X (.Call (.Name "min" p) [a, b] [] pos) δ δ2 (aI (if j < i then j else i)) :=
  je_B (call_min2 hc) PyProof.Rows.boot_min hm (fun B H vs Q s aa q => by
    obtain ⟨u, v, rfl, hu, hv⟩ := all2_two aa
    exact ⟨i, j, by rw [Dd.int_eq hu, Dd.int_eq hv], q _ B H (.refl B H) (.int _)⟩) (ja_cons h (ja_cons h' ja_nil he2) he) hg (by decide) (by decide) he hpl
theorem je_abs (hm : X.mg "abs" = none) (h : JE X e δ δ1 (aI i)) (hg : Gl X "abs" := by rfl) (he : starEach [e] X.env = (false, eval e X.env) :: starEach [] X.env := by rfl) : JE X (.Call (.Name "abs" p) [e] [] pos) δ δ1 (aI (if i < 0 then -i else i)) :=
  je_B call_abs PyProof.Rows.boot_abs hm (fun B H vs Q s aa q => by
    obtain ⟨v, rfl, hv⟩ := all2_one aa
    exact ⟨i, by rw [Dd.int_eq hv], q _ B H (.refl B H) (.int _)⟩) (ja_cons h ja_nil he) hg (by decide) (by decide) he rfl
end
end J
/-! A draw. -/
namespace J
open PySem PySem.Spec L2
/-- the number that is mixed for the draw c -/
def mixM (k c n : Int) : Int :=
  let once := ((k + 48271 * c) * (39373 + c)) % 2147483647
  let far := once % 40009 + 7
  let twice := ((once + c + k / 1000003) * far) % 2147483629
  ((twice * 48271 + once) % 2147483587 / 64) % n
def takeM (t : Tin) (n : Int) : Int × Tin := if 0 < t.g then (t.g % n, { t with g := t.g / n }) else (mixM t.k (t.c + 1) n, { t with c := t.c + 1 })
structure Tin.Ok (t : Tin) (m : Int) : Prop where
  k0 : 0 ≤ t.k
  k1 : t.k < 9223372036854775808
  c0 : 0 ≤ t.c
  c1 : t.c + m ≤ 1000000000
def R_take : RlM := fun M M' As Z => ∃ (a : Addr) (T : List Addr) (t : Tin) (n : Int), M = mTin a T t ∧ M' = mTin a T (takeM t n).2 ∧ As = [aI n] ∧ Z = some (aI (takeM t n).1) ∧ t.Ok 1 ∧ 0 < n ∧ n < 1000
theorem cmul_small {i j : Int} (h1 : i.natAbs < 2 ^ 64) (h2 : j.natAbs < 2 ^ 64) : CMulW i j := wide_mul h1 h2 (by decide) (by decide) (by decide)
theorem cmul_mid {i j : Int} (h1 : i.natAbs < 2 ^ 128) (h2 : j.natAbs < 2 ^ 64) : CMulW i j := wide_mul h1 h2 (by decide) (by decide) (by decide)
theorem cdiv_small {i j : Int} (h : 0 < j) (h2 : j.natAbs < 2 ^ 64) : CDivW i j := wide_div h h2 (by decide) (by decide)
section
variable {P : Program} {w : World} {K : PySem.W.Frag} {mg : Str → Option Value} {base : Heap} {nm : Nat → Str}
abbrev s_take : Stmt := topS 56
theorem c_take : FnScope ["_law_tin", "_law_top_so", "_law_digit_so", "_law_once", "_law_far", "_law_twice"] ["_law_tin", "_law_top_so"] (defScope s_take) := ⟨rfl, rfl, rfl, by decide +kernel, rfl, by decide +kernel, by decide +kernel⟩
theorem f_take {f : Addr} {fd : FuncData} {k : Nat} {C : Value} (F : Fun K "_law_take" "_law_take" s_take f fd) (mint : mg "int" = none) : FnOk P w K mg base CX0 (k + 1) f fd ["_law_tin", "_law_top_so"] (spM C R_take) := by
  refine fn_jM F c_take (fun M M' As Z ⟨a, T, t, n, e1, e2, e3, e4, _⟩ => ⟨by rw [e3]; rfl, by rw [e4]; exact (fun z => nomatch z), by rw [e1, e2]; exact mTin_prec⟩) fun cdv A outer s H E M M' As Z hr ⟨a, T, t, n, e1, e2, e3, e4, ok, n0, n1⟩ => ?_
  subst e1 e2 e3
  cases e4
  obtain ⟨g, kk, c⟩ := t
  obtain ⟨k0, k1, c0, c1⟩ := ok
  dsimp only at k0 k1 c0 c1
  refine jb_ifR (p := decide (0 < g)) (jt_cmp op_gt rop_B0 (je_tin 0 rfl je_int rfl (m := 0)) je_int) (fun hg => ?_) fun hg => ?_
  · have hg' : 0 < g := of_decide_eq_true hg
    have et : takeM ⟨g, kk, c⟩ n = (g % n, ⟨g / n, kk, c⟩) := if_pos hg'
    rw [et]
    refine jb_set 2 c_take.nd (je_mod (je_intI mint (je_tin 0 rfl je_int rfl (m := 0))) (je_v 1) n0) ?_
    refine jb_then (js_tin (m := 0) 0 (je_fdiv (je_tin 0 rfl je_int rfl (m := 0)) (je_v 1) (cdiv_small n0 (by omega))) rfl je_int rfl (by decide) rfl) ?_
    exact jb_ret (je_v 2) (fun _ _ h => h) rfl
  · have hg' : ¬ 0 < g := of_decide_eq_false hg
    have et : takeM ⟨g, kk, c⟩ n = (mixM kk (c + 1) n, ⟨g, kk, c + 1⟩) := if_neg hg'
    rw [et]
    refine jb_then (js_tin (m := 2) 0 (je_add (je_tin 0 rfl je_int rfl (m := 0)) je_int) rfl je_int rfl (by decide) rfl) ?_
    have b48 : (48271 * (c + 1)).natAbs < 2 ^ 64 := by omega
    have hon0 := Int.emod_nonneg ((kk + 48271 * (c + 1)) * (39373 + (c + 1))) (b := 2147483647) (by decide)
    have hon1 := Int.emod_lt_of_pos ((kk + 48271 * (c + 1)) * (39373 + (c + 1))) (b := 2147483647) (by decide)
    obtain ⟨once, hon⟩ : ∃ x, ((kk + 48271 * (c + 1)) * (39373 + (c + 1))) % 2147483647 = x := ⟨_, rfl⟩
    rw [hon] at hon0 hon1
    have hf0 := Int.emod_nonneg once (b := 40009) (by decide)
    have hf1 := Int.emod_lt_of_pos once (b := 40009) (by decide)
    obtain ⟨far, hfa⟩ : ∃ x, once % 40009 + 7 = x := ⟨_, rfl⟩
    have hkd0 : 0 ≤ kk / 1000003 := Int.ediv_nonneg k0 (by decide)
    have hkd1 : kk / 1000003 ≤ kk := Int.ediv_le_self _ k0
    have ht0 := Int.emod_nonneg ((once + (c + 1) + kk / 1000003) * far) (b := 2147483629) (by decide)
    have ht1 := Int.emod_lt_of_pos ((once + (c + 1) + kk / 1000003) * far) (b := 2147483629) (by decide)
    obtain ⟨twice, hte⟩ : ∃ x, ((once + (c + 1) + kk / 1000003) * far) % 2147483629 = x := ⟨_, rfl⟩
    rw [hte] at ht0 ht1
    refine jb_set (A := aI once) 3 c_take.nd (JE.eq (je_mod (je_intI mint (je_mul (je_add (je_tin 0 rfl je_int rfl (m := 0)) (je_mul je_int (je_tin 0 rfl je_int rfl (m := 0)) (show CMulW 48271 (c + 1) from cmul_small (by decide) (by omega)))) (je_add je_int (je_tin 0 rfl je_int rfl (m := 0))) (show CMulW (kk + 48271 * (c + 1)) (39373 + (c + 1)) from cmul_mid (by omega) (by omega)))) je_int (by decide)) (congrArg PyData.int hon)) ?_
    refine jb_set (A := aI far) 4 c_take.nd (JE.eq (je_add (je_mod (je_intI mint (je_v 3)) je_int (by decide)) je_int) (congrArg PyData.int hfa)) ?_
    refine jb_set (A := aI twice) 5 c_take.nd (JE.eq (je_mod (je_intI mint (je_mul (je_add (je_add (je_v 3) (je_tin 0 rfl je_int rfl (m := 0))) (je_fdiv (je_tin 0 rfl je_int rfl (m := 0)) je_int (cdiv_small (by decide) (by decide)))) (je_v 4) (show CMulW (once + (c + 1) + kk / 1000003) far from cmul_small (by omega) (by omega)))) je_int (by decide)) (congrArg PyData.int hte)) ?_
    have em : mixM kk (c + 1) n = (twice * 48271 + once) % 2147483587 / 64 % n := by
      rw [← hte, ← hfa, ← hon]
      rfl
    rw [em]
    exact jb_ret (je_mod (je_intI mint (je_fdiv (je_mod (je_intI mint (je_add (je_mul (je_v 5) je_int (show CMulW twice 48271 from cmul_small (by omega) (by decide))) (je_v 3))) je_int (by decide)) je_int (cdiv_small (by decide) (by decide)))) (je_v 1) n0) (fun _ _ h => h) rfl
end
end J
/-! Texts: walked, joined, a letter in one. -/
namespace J
open PySem PySem.Spec L2
section
variable {X : Cx} {δ δ1 δ2 : DSt} {a b e tg : Expr} {pos p : Pos} {O : Out}
def oneC (c : Nat) : Str := ⟨#[c]⟩
theorem walks_str {B : Hp} (x : Str) : Walks (Its x) B (x.cps.toList.map fun c => aS (oneC c)) := fun i B1 H1 s s' => by
  refine ⟨fun hi => ?_, fun A hA => ?_⟩
  · rw [List.length_map, Array.length_toList] at hi
    exact hi
  · rw [List.getElem?_map] at hA
    cases hx : x.cps.toList[i]? with
    | none => rw [hx] at hA; cases hA
    | some c =>
      rw [hx] at hA
      cases hA
      have hi := (List.getElem?_eq_some_iff.mp hx).1
      rw [Array.length_toList] at hi
      refine ⟨hi, fun y H2 ⟨e, c', h1, h2⟩ => .inl ⟨e, ?_⟩⟩
      rw [← Array.getElem?_toList, hx] at h1
      cases h1
      rw [h2]
      exact .str _
theorem ji_str {x : Str} (h : JE X e δ δ1 (aS x)) (hl : x.cps.size ≤ 1000) : JI X tg e δ δ1 (x.cps.toList.map fun c => aS (oneC c)) :=
  PI.imp (pi_str h) fun σ H R ⟨F, B, E, q⟩ => ⟨F, B, E, fun v B1 H1 E1 s1 a1 => ⟨x, Dd.str_eq a1, q _ B1 H1 E1 s1 (walks_str x) (by rw [List.length_map, Array.length_toList]; exact small hl)⟩⟩
theorem je_inC {c : Nat} {z : Str} (ha : JE X a δ δ1 (aS (oneC c))) (hb : JE X b δ1 δ2 (aS z)) (hm : behindInMarks .In b = false := by rfl) : JE X (.Compare a [.In] [b] pos) δ δ2 (aB (decide (c ∈ z.cps.toList))) :=
  je_cmp op_in_sign (fun B H x y Q s h1 h2 q => ⟨c, z, Dd.str_eq h1, Dd.str_eq h2, q _ B H (.refl B H) (.bl _)⟩) ha hb hm
theorem je_cat {x z : Str} (ha : JE X a δ δ1 (aS x)) (hb : JE X b δ1 δ2 (aS z)) (hl : x.length + z.length ≤ 1000) : JE X (.BinOp a .Add b pos) δ δ2 (aS (x ++ z)) :=
  je_op op_add_str (fun B H u v Q s h1 h2 q => ⟨x, z, Dd.str_eq h1, Dd.str_eq h2, small hl, q _ B H (.refl B H) (.str _)⟩) ha hb
theorem je_lenS {x : Str} (hm : X.mg "len" = none) (h : JE X e δ δ1 (aS x)) (hl : x.length ≤ 1000) (hg : Gl X "len" := by rfl) (he : starEach [e] X.env = (false, eval e X.env) :: starEach [] X.env := by rfl) : JE X (.Call (.Name "len" p) [e] [] pos) δ δ1 (aI x.length) :=
  je_B call_len_str boot_len hm (fun B H vs Q s aa q => by
    obtain ⟨v, rfl, hv⟩ := all2_one aa
    exact ⟨x, by rw [Dd.str_eq hv], small hl, q _ B H (.refl B H) (.int _)⟩) (ja_cons h ja_nil he) hg (by decide) (by decide) he rfl
theorem je_leLe {c : Expr} {i j k : Int} (ha : JE X a δ δ1 (aI i)) (hb : JE X b δ1 δ1 (aI j)) (hc : JE X c δ1 δ1 (aI k)) (hm : lastMarks [.LtE, .LtE] [b, c] = false := by with_unfolding_all rfl) : JE X (.Compare a [.LtE, .LtE] [b, c] pos) δ δ1 (aB (decide (i ≤ j) && decide (j ≤ k))) :=
  je_chain op_le op_le rop_B0 (fun _ => rop_B0) ha hb hc (fun ht => by subst ht; exact pe_chain op_le op_le ha hb hc hm)
theorem je_leLt {c : Expr} {i j k : Int} (ha : JE X a δ δ1 (aI i)) (hb : JE X b δ1 δ1 (aI j)) (hc : JE X c δ1 δ1 (aI k)) (hm : lastMarks [.LtE, .Lt] [b, c] = false := by with_unfolding_all rfl) : JE X (.Compare a [.LtE, .Lt] [b, c] pos) δ δ1 (aB (decide (i ≤ j) && decide (j < k))) :=
  je_chain op_le op_lt rop_B0 (fun _ => rop_B0) ha hb hc (fun ht => by subst ht; exact pe_chain op_le op_lt ha hb hc hm)
end
end J
/-! Comprehensions with two names as a target. -/
namespace J
open PySem PySem.Spec L2
section
variable {X : Cx} {iter elt c : Expr} {scope : Scope} {pos tp tq tr : Pos} {δ δ1 : DSt} {α : Type} {x y : Str} {kk : Nat}
/-- x, y in every block -/
theorem bg2 {i j : Nat} {A C : PyData} (hc : X.calm = true) (hN : X.N.Nodup) (hx : X.N[i]? = some x) (hy : X.N[j]? = some y) (hLx : Loc (relS scope X.env.scope) x) (hLy : Loc (relS scope X.env.scope) y)
    (hfx : (scope.names.lookup x == some .cell) = true ∨ (relS scope X.env.scope).names.lookup x = some .local) (hfy : (scope.names.lookup y == some .cell) = true ∨ (relS scope X.env.scope).names.lookup y = some .local) :
    Bk X scope fun Y => JG Y (.Tuple [.Name x tp, .Name y tq] kk tr) (aD (.tuple [A, C])) [i, j] δ ((δ.set i (some (.val (aD A)))).set j (some (.val (aD C)))) := fun s H Cc cl fp =>
  jg_tup (ws := [i] ++ ([j] ++ [])) (ds := [A, C]) (by first | rfl | exact hc) (jgs_cons (jg_of (A := aD A) (gn_mk (tp := tp) hN hx hLx hfx s H Cc cl fp)) (jgs_cons (jg_of (A := aD C) (gn_mk (tp := tq) hN hy hLy hfy s H Cc cl fp)) jgs_nil))
theorem jn_t2f (i j : Nat) (xs : List α) (d1 d2 : α → PyData) (p : α → Bool) (f : α → PyData) (hi : JI X (.Tuple [.Name x tp, .Name y tq] kk tr) iter δ δ1 (xs.map fun a => aD (.tuple [d1 a, d2 a]))) (ok : BlkOk X.N X.env.scope scope [(x, i), (y, j)])
    (hT : ∀ a ∈ xs, Bk X scope fun Y => JT Y c (((dwipe δ1 [i, j]).set i (some (.val (aD (d1 a))))).set j (some (.val (aD (d2 a))))) (((dwipe δ1 [i, j]).set i (some (.val (aD (d1 a))))).set j (some (.val (aD (d2 a))))) (p a))
    (hE : ∀ a ∈ xs, p a = true → Bk X scope fun Y => JE Y elt (((dwipe δ1 [i, j]).set i (some (.val (aD (d1 a))))).set j (some (.val (aD (d2 a))))) (((dwipe δ1 [i, j]).set i (some (.val (aD (d1 a))))).set j (some (.val (aD (d2 a))))) (aD (f a)))
    (hc : X.calm = true) (hN : X.N.Nodup) (hx : X.N[i]? = some x := by rfl) (hy : X.N[j]? = some y := by rfl) (hLx : Loc (relS scope X.env.scope) x := by first | exact .inl rfl | exact .inr rfl) (hLy : Loc (relS scope X.env.scope) y := by first | exact .inl rfl | exact .inr rfl)
    (hfx : (scope.names.lookup x == some .cell) = true ∨ (relS scope X.env.scope).names.lookup x = some .local := by first | exact .inr rfl | exact .inl rfl) (hfy : (scope.names.lookup y == some .cell) = true ∨ (relS scope X.env.scope).names.lookup y = some .local := by first | exact .inr rfl | exact .inl rfl)
    (hw : ∀ a, dwipe (((dwipe δ1 [i, j]).set i (some (.val (aD (d1 a))))).set j (some (.val (aD (d2 a))))) [i, j] = dwipe δ1 [i, j] := by intro _; rfl) (hs : ∀ x, foldedSetIterable iter X.env x = pure x := by intro _; rfl) : JN X (.ListComp elt [⟨.Tuple [.Name x tp, .Name y tq] kk tr, iter, [c], 0⟩] scope pos) δ (dwipe δ1 [i, j]) (isL ((xs.filter p).map f)) :=
  jn_lc (own := [(x, i), (y, j)]) (ws := [i, j]) xs (fun a => .tuple [d1 a, d2 a]) (fun a => ((dwipe δ1 [i, j]).set i (some (.val (aD (d1 a))))).set j (some (.val (aD (d2 a))))) p f hi ok (fun a ha => bg2 hc hN hx hy hLx hLy hfx hfy) (fun a ha s H C cl fp => jts_one (hT a ha s H C cl fp)) hE hc hN (fun k hk => hk) hw hs
theorem jn_t2 (i j : Nat) (xs : List α) (d1 d2 : α → PyData) (f : α → PyData) (hi : JI X (.Tuple [.Name x tp, .Name y tq] kk tr) iter δ δ1 (xs.map fun a => aD (.tuple [d1 a, d2 a]))) (ok : BlkOk X.N X.env.scope scope [(x, i), (y, j)])
    (hE : ∀ a ∈ xs, Bk X scope fun Y => JE Y elt (((dwipe δ1 [i, j]).set i (some (.val (aD (d1 a))))).set j (some (.val (aD (d2 a))))) (((dwipe δ1 [i, j]).set i (some (.val (aD (d1 a))))).set j (some (.val (aD (d2 a))))) (aD (f a)))
    (hc : X.calm = true) (hN : X.N.Nodup) (hx : X.N[i]? = some x := by rfl) (hy : X.N[j]? = some y := by rfl) (hLx : Loc (relS scope X.env.scope) x := by first | exact .inl rfl | exact .inr rfl) (hLy : Loc (relS scope X.env.scope) y := by first | exact .inl rfl | exact .inr rfl)
    (hfx : (scope.names.lookup x == some .cell) = true ∨ (relS scope X.env.scope).names.lookup x = some .local := by first | exact .inr rfl | exact .inl rfl) (hfy : (scope.names.lookup y == some .cell) = true ∨ (relS scope X.env.scope).names.lookup y = some .local := by first | exact .inr rfl | exact .inl rfl)
    (hw : ∀ a, dwipe (((dwipe δ1 [i, j]).set i (some (.val (aD (d1 a))))).set j (some (.val (aD (d2 a))))) [i, j] = dwipe δ1 [i, j] := by intro _; rfl) (hs : ∀ x, foldedSetIterable iter X.env x = pure x := by intro _; rfl) : JN X (.ListComp elt [⟨.Tuple [.Name x tp, .Name y tq] kk tr, iter, [], 0⟩] scope pos) δ (dwipe δ1 [i, j]) (isL (xs.map f)) := by
  have h := jn_lc (own := [(x, i), (y, j)]) (ws := [i, j]) (pos := pos) (elt := elt) (ifs := []) xs (fun a => .tuple [d1 a, d2 a]) (fun a => ((dwipe δ1 [i, j]).set i (some (.val (aD (d1 a))))).set j (some (.val (aD (d2 a))))) (fun _ => true) f hi ok (fun a ha => bg2 hc hN hx hy hLx hLy hfx hfy) (fun a ha s H C cl fp => jts_nil) (fun a ha _ => hE a ha) hc hN (fun k hk => hk) hw hs
  rw [List.filter_eq_self.mpr fun _ _ => rfl] at h
  exact h
end
theorem jt_w {X : Cx} {e : Expr} {δ δ1 : DSt} {p : Bool} (h : JW X e δ δ1 p) : JT X e δ δ1 p := h.pt
end J
/-! is_number, is_name, rises, set_of, is_name_set, is_word. -/
namespace J
open PySem PySem.Spec L2
section
variable {P : Program} {w : World} {K : PySem.W.Frag} {mg : Str → Option Value} {base : Heap} {nm : Nat → Str} {f : Addr} {fd : FuncData} {k : Nat}
abbrev s_isnum : Stmt := topS 4
theorem c_isnum : FnScope ["thing"] ["thing"] (defScope s_isnum) := ⟨rfl, rfl, rfl, by decide +kernel, rfl, by decide +kernel, by decide +kernel⟩
def R_isnum : Rl := fun As Z => ∃ i : Int, As = [aI i] ∧ Z = aB true
theorem f_isnum (F : Fun K "is_number" "is_number" s_isnum f fd) (mi : mg "isinstance" = none) (m1 : mg "int" = none) (m2 : mg "bool" = none) : FnOk P w K mg base CX0 (k + 1) f fd ["thing"] (spJ R_isnum) := by
  refine fn_j F c_isnum (fun As Z ⟨i, e, _⟩ => by rw [e]; rfl) fun cdv A outer s H0 E As Z hr ⟨i, e1, e2⟩ => ?_
  subst e1 e2
  exact jb_ret (je_and (p := true) (q := true) (je_isi mi (je_v 0) (je_ty m1 PyProof.Rows.boot_int) rfl) fun _ => je_one (je_not (p := false) (je_isi mi (je_v 0) (je_ty m2 PyProof.Rows.boot_bool) rfl))) Ret.same
/-- a NAME -/
def lettersS : Str := "abcdefghijklmnopqrstuvwxyz"
structure NameOk (s : Str) : Prop where
  lo : 1 ≤ s.length
  hi : s.length ≤ 8
  let' : ∀ c ∈ s.cps.toList, c ∈ lettersS.cps.toList
abbrev s_isname : Stmt := topS 5
theorem c_isname : FnScope ["thing", "letter"] ["thing"] (defScope s_isname) := ⟨rfl, rfl, rfl, by decide +kernel, rfl, by decide +kernel, by decide +kernel⟩
def R_isname : Rl := fun As Z => ∃ x : Str, As = [aS x] ∧ Z = aB true ∧ NameOk x
theorem f_isname {t : Tok} (F : Fun K "is_name" "is_name" s_isname f fd) (mi : mg "isinstance" = none) (m1 : mg "str" = none) (m2 : mg "len" = none) (m3 : mg "all" = none) (m4 : mg "LETTERS" = some (.str lettersS t)) : FnOk P w K mg base CX0 (k + 1) f fd ["thing"] (spJ R_isname) := by
  refine fn_j F c_isname (fun As Z ⟨i, e, _⟩ => by rw [e]; rfl) fun cdv A outer s H0 E As Z hr ⟨x, e1, e2, ok⟩ => ?_
  subst e1 e2
  have h1 := ok.lo
  have h2 := ok.hi
  have hz : x.cps.size ≤ 1000 := by
    have : x.length = x.cps.size := rfl
    omega
  refine jb_ret (je_and (p := true) (q := true) (je_isi mi (je_v 0) (je_ty m1 PyProof.Rows.boot_str) rfl) fun _ => je_and (p := true) (q := true) ?_ fun _ => je_one ?_) Ret.same
  · refine JE.eq (je_leLe je_int (je_lenS m2 (je_v 0) (by omega)) je_int) ?_
    rw [decide_eq_true (by omega), decide_eq_true (by omega)]
    rfl
  · refine JE.eq (je_allC (xs := x.cps.toList) (b := fun c => decide (c ∈ lettersS.cps.toList)) m3 rfl (jn_m 1 x.cps.toList (fun c => .str (oneC c)) (fun c => .bool (decide (c ∈ lettersS.cps.toList))) (ji_str (je_v 0) hz) (blkOk_by (N := ["thing", "letter"]) (sc := defScope s_isname) (by decide +kernel))
      (fun y hy _ _ _ _ _ => je_inC (je_v 1) (je_glS m4)) rfl c_isname.nd)) ?_
    congr 1
    rw [List.all_eq_true]
    exact fun c hc => decide_eq_true (ok.let' c hc)
/-! ### rises -/
def risesD (ds : List PyData) : Bool := (ds.zip ds.tail).all fun p => ltD p.1 p.2
abbrev s_rises : Stmt := topS 7
theorem c_rises : FnScope ["thing", "one", "other"] ["thing"] (defScope s_rises) := ⟨rfl, rfl, rfl, by decide +kernel, rfl, by decide +kernel, by decide +kernel⟩
def R_rises : Rl := fun As Z => ∃ ds d, (d = .tuple ds ∨ d = .list ds) ∧ As = [aD d] ∧ Z = aB (risesD ds) ∧ (∀ e ∈ ds, SeqAt.shaped e = true) ∧ ∀ e ∈ ds, ∀ g ∈ ds, cmpb e g = true
theorem cut1 (ds : List PyData) : cutD ds (some 1) none = ds.tail := by
  have h := cutD_from (ds := ds) 1
  rw [List.drop_one] at h
  exact h
theorem f_rises (F : Fun K "rises" "rises" s_rises f fd) (m1 : mg "all" = none) (m2 : mg "zip" = none) : FnOk P w K mg base CX0 (k + 1) f fd ["thing"] (spJ R_rises) := by
  refine fn_j F c_rises (fun As Z ⟨ds, d, _, e, _⟩ => by rw [e]; rfl) fun cdv A outer s H0 E As Z hr ⟨ds, d, hd, e1, e2, sh, cm⟩ => ?_
  subst e1 e2
  have mem : ∀ y ∈ ds.zip ds.tail, y.1 ∈ ds ∧ y.2 ∈ ds := fun y hy => ⟨(List.of_mem_zip hy).1, List.mem_of_mem_tail (List.of_mem_zip hy).2⟩
  rcases hd with hd | hd
  · subst hd
    have hsl := fun {X : Cx} {δ : DSt} {p p1 p2 : Pos} {e : Expr} (h : JE X e δ δ (aD (.tuple ds))) => JE.eq (je_slT (pos := p) (p2 := p1) h (jo_some (je_int (i := 1) (j := 0) (pos := p2))) jo_none) (by rw [cut1])
    exact jb_ret (je_allC (xs := ds.zip ds.tail) (b := fun p => ltD p.1 p.2) m1 rfl (jn_t2 1 2 (ds.zip ds.tail) (·.1) (·.2) (fun p => .bool (ltD p.1 p.2)) (ji_zipT m2 (je_v 0) (hsl (je_v 0))) (blkOk_by (N := ["thing", "one", "other"]) (sc := defScope s_rises) (by decide +kernel))
      (fun y hy _ _ _ _ _ => je_ltD hr (je_v 1) (je_v 2) (sh _ (mem y hy).1) (sh _ (mem y hy).2) (cm _ (mem y hy).1 _ (mem y hy).2)) rfl c_rises.nd)) Ret.same
  · subst hd
    have hsl := fun {X : Cx} {δ : DSt} {p p1 p2 : Pos} {e : Expr} (h : JE X e δ δ (aD (.list ds))) => JE.eq (je_slL (pos := p) (p2 := p1) h (jo_some (je_int (i := 1) (j := 0) (pos := p2))) jo_none) (by rw [cut1])
    exact jb_ret (je_allC (xs := ds.zip ds.tail) (b := fun p => ltD p.1 p.2) m1 rfl (jn_t2 1 2 (ds.zip ds.tail) (·.1) (·.2) (fun p => .bool (ltD p.1 p.2)) (ji_zip m2 (je_v 0) (hsl (je_v 0))) (blkOk_by (N := ["thing", "one", "other"]) (sc := defScope s_rises) (by decide +kernel))
      (fun y hy _ _ _ _ _ => je_ltD hr (je_v 1) (je_v 2) (sh _ (mem y hy).1) (sh _ (mem y hy).2) (cm _ (mem y hy).1 _ (mem y hy).2)) rfl c_rises.nd)) Ret.same
/-! ### set_of -/
abbrev s_setof : Stmt := topS 8
theorem c_setof : FnScope ["things"] ["things"] (defScope s_setof) := ⟨rfl, rfl, rfl, by decide +kernel, rfl, by decide +kernel, by decide +kernel⟩
/-- these, ascending, none twice -/
structure SetIs (ds out : List PyData) : Prop where
  nd : out.Nodup
  mem : ∀ d, d ∈ out ↔ d ∈ ds
  asc : out.Pairwise LeP
def R_setof : Rl := fun As Z => ∃ ds d out, (d = .tuple ds ∨ d = .list ds) ∧ As = [aD d] ∧ Z = aD (.tuple out) ∧ Kd ds ∧ SrtOk ds ∧ ds.length < 4000 ∧ SetIs ds out
theorem f_setof (F : Fun K "set_of" "set_of" s_setof f fd) (m1 : mg "tuple" = none) (m2 : mg "sorted" = none) (m3 : mg "set" = none) : FnOk P w K mg base CX0 (k + 1) f fd ["things"] (spJ R_setof) := by
  refine fn_j F c_setof (fun As Z ⟨ds, d, out, _, e, _⟩ => by rw [e]; rfl) fun cdv A outer s H0 E As Z hr ⟨ds, d, out, hd, e1, e2, kd, so, hl, si⟩ => ?_
  subst e1 e2
  have hu := hr.un
  exact jb_ret (je_tupleL m1 (je_sortedSet (ds := ds) out so hl si.nd si.mem si.asc m2 rfl hr (by show (A.deeper _).units + 68 < cLine; omega) (je_set hd.symm kd hl m3 rfl hr (je_v 0)))) Ret.same
/-! ### is_name_set -/
abbrev s_isnames : Stmt := topS 9
theorem c_isnames : FnScope ["thing", "part"] ["thing"] (defScope s_isnames) := ⟨rfl, rfl, rfl, by decide +kernel, rfl, by decide +kernel, by decide +kernel⟩
def R_isnames : Rl := fun As Z => ∃ xs : List Str, As = [aD (.tuple (xs.map .str))] ∧ Z = aB (risesD (xs.map .str)) ∧ ∀ x ∈ xs, NameOk x
theorem shaped_str {x : Str} (h : PySem.PyData.strOk x = true) : SeqAt.shaped (.str x) = true := by
  unfold SeqAt.shaped
  rw [show (PyData.str x).canLay0 = true from h]
  rfl
theorem NameOk.str {x : Str} (h : NameOk x) : PySem.PyData.strOk x = true := by
  show x.cps.all _ = true
  rw [Array.all_eq_true_iff_forall_mem]
  intro c hc
  have hh := h.let' c (by simpa using hc)
  have : ∀ c ∈ lettersS.cps.toList, decide (c < 0x110000) = true := by decide +kernel
  exact this c hh
theorem cmpb_str (x y : Str) : cmpb (.str x) (.str y) = true := rfl
theorem f_isnames (F : Fun K "is_name_set" "is_name_set" s_isnames f fd) (C1 : Cal P w K mg base k "is_name" R_isname) (C2 : Cal P w K mg base k "rises" R_rises) (m1 : mg "isinstance" = none) (m2 : mg "tuple" = none) (m3 : mg "all" = none) : FnOk P w K mg base CX0 (k + 1) f fd ["thing"] (spJ R_isnames) := by
  refine fn_j F c_isnames (fun As Z ⟨xs, e, _⟩ => by rw [e]; rfl) fun cdv A outer s H0 E As Z hr ⟨xs, e1, e2, ok⟩ => ?_
  subst e1 e2
  refine jb_ret (je_and (p := true) (q := risesD (xs.map .str)) (je_isi m1 (je_v 0) (je_ty m2 PyProof.Rows.boot_tuple) rfl) fun _ => JE.eq (je_and (p := true) (q := risesD (xs.map .str)) ?_ fun _ => je_one ?_) rfl) Ret.same
  · refine JE.eq (je_allC (xs := xs) (b := fun _ => true) m3 rfl (jn_m 1 xs .str (fun _ => .bool true) (ji_T (je_v 0)) (blkOk_by (N := ["thing", "part"]) (sc := defScope s_isnames) (by decide +kernel))
      (fun y hy _ _ _ _ _ => je_call C1 hr (Nat.le_refl _) (ja_cons (je_v 1) ja_nil) ⟨y, rfl, rfl, ok y hy⟩) rfl c_isnames.nd)) ?_
    congr 1
    rw [List.all_eq_true]
    exact fun _ _ => rfl
  · refine je_call C2 hr (Nat.le_refl _) (ja_cons (je_v 0) ja_nil) ⟨xs.map .str, _, .inl rfl, rfl, rfl, fun e he => ?_, fun e he g hg => ?_⟩
    · obtain ⟨x, hx, rfl⟩ := List.mem_map.mp he
      exact shaped_str (ok x hx).str
    · obtain ⟨x, _, rfl⟩ := List.mem_map.mp he
      obtain ⟨y, _, rfl⟩ := List.mem_map.mp hg
      rfl
/-! ### is_word -/
abbrev s_isword : Stmt := topS 11
theorem c_isword : FnScope ["sizes", "thing", "part", "size"] ["sizes", "thing"] (defScope s_isword) := ⟨rfl, rfl, rfl, by decide +kernel, rfl, by decide +kernel, by decide +kernel⟩
def R_isword : Rl := fun As Z => ∃ zs ws : List Int, As = [aD (.tuple (zs.map .int)), aD (.tuple (ws.map .int))] ∧ ws.length = zs.length ∧ Z = aB ((ws.zip zs).all fun p => decide (0 ≤ p.1) && decide (p.1 < p.2))
theorem zip_ints (xs ys : List Int) : (((xs.map PyData.int).zip (ys.map PyData.int)).map fun q => aD (.tuple [q.1, q.2])) = (xs.zip ys).map fun q => aD (.tuple [.int q.1, .int q.2]) := by
  rw [List.zip_map, List.map_map]
  rfl
theorem f_isword (F : Fun K "is_word" "is_word" s_isword f fd) (C1 : Cal P w K mg base k "is_number" R_isnum) (m1 : mg "isinstance" = none) (m2 : mg "tuple" = none) (m3 : mg "all" = none) (m4 : mg "len" = none) (m5 : mg "zip" = none) : FnOk P w K mg base CX0 (k + 1) f fd ["sizes", "thing"] (spJ R_isword) := by
  refine fn_j F c_isword (fun As Z ⟨zs, ws, e, _⟩ => by rw [e]; rfl) fun cdv A outer s H0 E As Z hr ⟨zs, ws, e1, hl, e2⟩ => ?_
  subst e1 e2
  refine jb_ifR (p := false) (jt_w (jw_or (p := false) (q := false) (jt_not (p := true) (jt_val (je_isi m1 (je_v 1) (je_ty m2 PyProof.Rows.boot_tuple) rfl))) fun _ => jw_or1 (JT.eq (jt_cmp op_ne rop_neI (je_lenT m4 (je_v 1)) (je_lenT m4 (je_v 0))) ?_))) (fun z => by cases z) fun _ => ?_
  · rw [List.length_map, List.length_map, hl]
    simp
  · exact jb_ret (je_allC (xs := ws.zip zs) (b := fun p => decide (0 ≤ p.1) && decide (p.1 < p.2)) m3 rfl (jn_t2 2 3 (ws.zip zs) (fun q => .int q.1) (fun q => .int q.2) (fun p => .bool (decide (0 ≤ p.1) && decide (p.1 < p.2))) (JI.eq (ji_zipT m5 (je_v 1) (je_v 0)) (zip_ints ws zs)) (blkOk_by (N := ["sizes", "thing", "part", "size"]) (sc := defScope s_isword) (by decide +kernel))
      (fun y hy _ _ _ _ _ => JE.eq (je_and (p := true) (q := decide (0 ≤ y.1) && decide (y.1 < y.2)) (je_call C1 hr (Nat.le_refl _) (ja_cons (je_v 2) ja_nil) ⟨y.1, rfl, rfl⟩) fun _ => je_one (je_leLt je_int (je_v 2) (je_v 3))) rfl) rfl c_isword.nd)) Ret.same
end
end J
/-! tupled. -/
namespace J
open PySem PySem.Spec L2
/-- tuples of tuples .. of plain things, at most so deep -/
def flatT : Nat → PyData → Bool
  | n + 1, .tuple ds => ds.all (flatT n)
  | _, .int _ | _, .str _ | _, .bool _ | _, .none => true
  | _, _ => false
section
variable {P : Program} {w : World} {K : PySem.W.Frag} {mg : Str → Option Value} {base : Heap} {nm : Nat → Str} {f : Addr} {fd : FuncData} {k : Nat}
abbrev s_tupled : Stmt := topS 6
theorem c_tupled : FnScope ["thing", "part"] ["thing"] (defScope s_tupled) := ⟨rfl, rfl, rfl, by decide +kernel, rfl, by decide +kernel, by decide +kernel⟩
/-- what it hands back -/
inductive TupR : Nat → PyData → AV → Prop
  | dat {n : Nat} {d : PyData} : flatT n d = true → TupR n d (aD d)
  | frz {n : Nat} {ds : List PyData} : ds.all (flatT n) = true → TupR (n + 1) (.tuple ds) (aTF (ds.map aD))
  | cht {n : Nat} {a b : PyData} {ds : List PyData} : flatT (n + 1) a = true → ds.all (flatT n) = true → flatT (n + 1) b = true → TupR (n + 2) (.tuple [a, .tuple ds, b]) (aTA [aD a, aTF (ds.map aD), aD b])
def R_tupled (n : Nat) : Rl := fun As Z => ∃ d, As = [aD d] ∧ TupR n d Z
theorem isi_tup {X : Cx} {δ : DSt} {a c1 c2 : Expr} {pos p : Pos} {kk : Nat} {tp : Pos} {ds : List PyData} : True := trivial
theorem f_tupled (F : Fun K "tupled" "tupled" s_tupled f fd) (g : mg "tupled" = some (.ref f)) (kp : PySem.W.keepIn K (.ref f) = true) (bd : Binds K fd ["thing"] []) (m1 : mg "isinstance" = none) (m2 : mg "list" = none) (m3 : mg "tuple" = none) :
    ∀ n, FnOk P w K mg base CX0 (k + n + 1) f fd ["thing"] (spJ (R_tupled n)) := by
  intro n
  induction n with
  | zero =>
    refine fn_j F c_tupled (fun As Z ⟨i, e, _⟩ => by rw [e]; rfl) fun cdv A outer s H0 E As Z hr ⟨d, e1, r⟩ => ?_
    subst e1
    cases r with
    | dat h =>
      cases d with
      | list ds => exact absurd h (by simp [flatT])
      | tuple ds => exact absurd h (by simp [flatT])
      | dict ds => exact absurd h (by simp [flatT])
      | none => exact jb_ret (je_if (p := false) (jt_val (je_isi2 (r1 := false) (r2 := false) m1 (je_v 0) (je_ty m2 PyProof.Rows.boot_list) (je_ty m3 PyProof.Rows.boot_tuple) rfl rfl)) (fun z => by cases z) fun _ => je_v 0) Ret.same
      | int _ => exact jb_ret (je_if (p := false) (jt_val (je_isi2 (r1 := false) (r2 := false) m1 (je_v 0) (je_ty m2 PyProof.Rows.boot_list) (je_ty m3 PyProof.Rows.boot_tuple) rfl rfl)) (fun z => by cases z) fun _ => je_v 0) Ret.same
      | bool _ => exact jb_ret (je_if (p := false) (jt_val (je_isi2 (r1 := false) (r2 := false) m1 (je_v 0) (je_ty m2 PyProof.Rows.boot_list) (je_ty m3 PyProof.Rows.boot_tuple) rfl rfl)) (fun z => by cases z) fun _ => je_v 0) Ret.same
      | str _ => exact jb_ret (je_if (p := false) (jt_val (je_isi2 (r1 := false) (r2 := false) m1 (je_v 0) (je_ty m2 PyProof.Rows.boot_list) (je_ty m3 PyProof.Rows.boot_tuple) rfl rfl)) (fun z => by cases z) fun _ => je_v 0) Ret.same
  | succ n ih =>
    have C0 : Cal P w K mg base (k + n + 1) "tupled" (R_tupled n) := ⟨f, fd, _, ih, g, kp, bd⟩
    refine fn_j F c_tupled (fun As Z ⟨i, e, _⟩ => by rw [e]; rfl) fun cdv A outer s H0 E As Z hr ⟨d, e1, r⟩ => ?_
    subst e1
    cases r with
    | dat h =>
      cases d with
      | list ds => exact absurd h (by simp [flatT])
      | tuple ds => 
        have hh : ds.all (flatT n) = true := h
        exact jb_ret (je_if (p := true) (jt_val (je_isi2 (r1 := false) (r2 := true) m1 (je_v 0) (je_ty m2 PyProof.Rows.boot_list) (je_ty m3 PyProof.Rows.boot_tuple) rfl rfl)) (fun _ => JE.eq (je_tupleL m3 (JN.dat (jn_m 1 ds id id (ji_T (xs := ds) (enc := id) (JE.eq (je_v 0) (by rw [List.map_id]))) (blkOk_by (N := ["thing", "part"]) (sc := defScope s_tupled) (by decide +kernel))
          (fun y hy _ _ _ _ _ => je_call C0 hr (Nat.le_refl _) (ja_cons (je_v 1) ja_nil) ⟨y, rfl, .dat (List.all_eq_true.mp hh y hy)⟩) rfl c_tupled.nd))) (by rw [List.map_id])) fun z => by cases z) Ret.same
      | dict ds => exact absurd h (by simp [flatT])
      | none => exact jb_ret (je_if (p := false) (jt_val (je_isi2 (r1 := false) (r2 := false) m1 (je_v 0) (je_ty m2 PyProof.Rows.boot_list) (je_ty m3 PyProof.Rows.boot_tuple) rfl rfl)) (fun z => by cases z) fun _ => je_v 0) Ret.same
      | int _ => exact jb_ret (je_if (p := false) (jt_val (je_isi2 (r1 := false) (r2 := false) m1 (je_v 0) (je_ty m2 PyProof.Rows.boot_list) (je_ty m3 PyProof.Rows.boot_tuple) rfl rfl)) (fun z => by cases z) fun _ => je_v 0) Ret.same
      | bool _ => exact jb_ret (je_if (p := false) (jt_val (je_isi2 (r1 := false) (r2 := false) m1 (je_v 0) (je_ty m2 PyProof.Rows.boot_list) (je_ty m3 PyProof.Rows.boot_tuple) rfl rfl)) (fun z => by cases z) fun _ => je_v 0) Ret.same
      | str _ => exact jb_ret (je_if (p := false) (jt_val (je_isi2 (r1 := false) (r2 := false) m1 (je_v 0) (je_ty m2 PyProof.Rows.boot_list) (je_ty m3 PyProof.Rows.boot_tuple) rfl rfl)) (fun z => by cases z) fun _ => je_v 0) Ret.same
    | frz h =>
      rename_i ds _
      exact jb_ret (je_if (p := true) (jt_val (je_isi2 (r1 := false) (r2 := true) m1 (je_v 0) (je_ty m2 PyProof.Rows.boot_list) (je_ty m3 PyProof.Rows.boot_tuple) rfl rfl)) (fun _ => je_tupleF m3 (JNA.dat (jn_mA 1 ds (fun d => aD d) (fun d => aD d) (ji_tup (je_v 0)) (blkOk_by (N := ["thing", "part"]) (sc := defScope s_tupled) (by decide +kernel))
          (fun y hy _ _ _ _ _ => je_call C0 hr (Nat.le_refl _) (ja_cons (je_v 1) ja_nil) ⟨y, rfl, .dat (List.all_eq_true.mp h y hy)⟩) rfl c_tupled.nd))) fun z => by cases z) Ret.same
    | cht h1 h2 h3 =>
      rename_i n a b ds _
      have hz : (fun y : AV × AV => y.1) = Prod.fst := rfl
      have all : ∀ y ∈ [(aD a, aD a), (aD (.tuple ds), aTF (ds.map aD)), (aD b, aD b)], ∃ d, y.1 = aD d ∧ TupR (n + 1) d y.2 := fun y hy => by
        simp only [List.mem_cons, List.not_mem_nil, or_false] at hy
        rcases hy with rfl | rfl | rfl
        · exact ⟨a, rfl, .dat h1⟩
        · exact ⟨_, rfl, .frz h2⟩
        · exact ⟨b, rfl, .dat h3⟩
      exact jb_ret (je_if (p := true) (jt_val (je_isi2 (r1 := false) (r2 := true) m1 (je_v 0) (je_ty m2 PyProof.Rows.boot_list) (je_ty m3 PyProof.Rows.boot_tuple) rfl rfl)) (fun _ => je_tupleA m3 (JNA.dat (jn_mA 1 [(aD a, aD a), (aD (.tuple ds), aTF (ds.map aD)), (aD b, aD b)] (fun y => y.1) (fun y => y.2) (JI.eq (ji_tup (je_v 0)) rfl) (blkOk_by (N := ["thing", "part"]) (sc := defScope s_tupled) (by decide +kernel))
          (fun y hy _ _ _ _ _ => je_call C0 hr (Nat.le_refl _) (ja_cons (je_v 1) ja_nil) (let ⟨d, e, t⟩ := all y hy; ⟨d, by rw [e], t⟩)) rfl c_tupled.nd))) fun z => by cases z) Ret.same
end
end J
/-! Charts. -/
namespace J
open PySem PySem.Spec L2
structure NamX (nm : Nat → Str) : Prop extends Nam nm where
  ok : ∀ i, PySem.PyData.strOk (nm i) = true
  name : ∀ i, i < 20 → NameOk (nm i)
/-- a chart: m states, their words, the moves -/
structure Ch where
  m : Nat
  sz : List Int
  wd : Nat → List Int
  ti : List (Nat × Nat)
abbrev dW (w : List Int) : PyData := .tuple (w.map .int)
abbrev dS (nm : Nat → Str) (c : Ch) (i : Nat) : PyData := .tuple [eN nm i, dW (c.wd i)]
abbrev dM (nm : Nat → Str) (t : Nat × Nat) : PyData := .tuple [eN nm t.1, eN nm t.2]
abbrev dMs (nm : Nat → Str) (c : Ch) : PyData := .tuple (c.ti.map (dM nm))
abbrev dSs (nm : Nat → Str) (c : Ch) : List PyData := (List.range c.m).map (dS nm c)
abbrev dCh (nm : Nat → Str) (c : Ch) : PyData := .tuple [dW c.sz, .tuple (dSs nm c), dMs nm c]
structure Ch.Ok (c : Ch) : Prop where
  m1 : 1 ≤ c.m
  m5 : c.m ≤ 5
  z : c.sz.length ≤ 20
  w : ∀ i, (c.wd i).length = c.sz.length
  t : ∀ p ∈ c.ti, p.1 < p.2 ∧ p.2 < c.m
  tn : c.ti.Nodup
theorem flatT_W (n : Nat) (w : List Int) : flatT (n + 1) (dW w) = true := by
  show (w.map PyData.int).all (flatT n) = true
  rw [List.all_map, List.all_eq_true]
  intro x _
  cases n <;> rfl
theorem flatT_M (nm : Nat → Str) (n : Nat) (t : Nat × Nat) : flatT (n + 1) (dM nm t) = true := by
  show ([eN nm t.1, eN nm t.2]).all (flatT n) = true
  cases n <;> rfl
theorem flatT_Ms (nm : Nat → Str) (c : Ch) (n : Nat) : flatT (n + 2) (dMs nm c) = true := by
  show (c.ti.map (dM nm)).all (flatT (n + 1)) = true
  rw [List.all_map, List.all_eq_true]
  exact fun x _ => flatT_M nm n x
theorem flatT_S (nm : Nat → Str) (c : Ch) (n i : Nat) : flatT (n + 2) (dS nm c i) = true := by
  show (flatT (n + 1) (eN nm i) && (flatT (n + 1) (dW (c.wd i)) && true)) = true
  rw [flatT_W]
  rfl
theorem flatT_Ss (nm : Nat → Str) (c : Ch) (n : Nat) : (dSs nm c).all (flatT (n + 2)) = true := by
  rw [List.all_map, List.all_eq_true]
  exact fun x _ => flatT_S nm c n x
def aTup (nm : Nat → Str) (c : Ch) : AV := aTA [aD (dW c.sz), aTF ((dSs nm c).map aD), aD (dMs nm c)]
theorem tup_chart (nm : Nat → Str) (c : Ch) : R_tupled 4 [aD (dCh nm c)] (aTup nm c) := ⟨_, rfl, .cht (n := 2) (flatT_W _ _) (flatT_Ss nm c 0) (flatT_Ms nm c 1)⟩
section
variable {P : Program} {w : World} {K : PySem.W.Frag} {mg : Str → Option Value} {base : Heap} {nm : Nat → Str} {f : Addr} {fd : FuncData} {k : Nat}
/-! ### names -/
abbrev s_names : Stmt := topS 12
theorem c_names : FnScope ["chart", "name", "word"] ["chart"] (defScope s_names) := ⟨rfl, rfl, rfl, by decide +kernel, rfl, by decide +kernel, by decide +kernel⟩
abbrev dNs (nm : Nat → Str) (c : Ch) : PyData := eE nm (List.range c.m)
def R_names (nm : Nat → Str) : Rl := fun As Z => ∃ c : Ch, As = [aD (dCh nm c)] ∧ Z = aD (dNs nm c)
theorem ji_st {X : Cx} {δ δ1 : DSt} {e tg : Expr} {pos p1 : Pos} {c : Ch} {j : Nat} (h : JE X e δ δ1 (aTup nm c)) : JI X tg (.Subscript e (.Constant (.int 1) j p1) pos) δ δ1 ((List.range c.m).map fun i => aD (.tuple [eN nm i, dW (c.wd i)])) :=
  JI.eq (ji_TF (je_ixTA h je_int rfl)) (by rw [List.map_map]; rfl)
theorem f_names (F : Fun K "names" "names" s_names f fd) (C0 : Cal P w K mg base k "tupled" (R_tupled 4)) (m1 : mg "tuple" = none) : FnOk P w K mg base CX0 (k + 1) f fd ["chart"] (spJ (R_names nm)) := by
  refine fn_j F c_names (fun As Z ⟨i, e, _⟩ => by rw [e]; rfl) fun cdv A outer s H0 E As Z hr ⟨c, e1, e2⟩ => ?_
  subst e1 e2
  exact jb_ret (je_tupleL m1 (JN.dat (jn_t2 1 2 (List.range c.m) (eN nm) (fun i => dW (c.wd i)) (eN nm) (ji_st (je_call C0 hr (Nat.le_refl _) (ja_cons (je_v 0) ja_nil) (tup_chart nm c))) (blkOk_by (N := ["chart", "name", "word"]) (sc := defScope s_names) (by decide +kernel))
    (fun y hy _ _ _ _ _ => je_v 1) rfl c_names.nd))) Ret.same
end
end J
/-! Sets as rising lists. -/
namespace J
open PySem PySem.Spec L2
section
variable {α : Type}
def insB (lt : α → α → Bool) (x : α) : List α → List α
  | [] => [x]
  | y :: ys => if lt x y then x :: y :: ys else if lt y x then y :: insB lt x ys else y :: ys
def setB (lt : α → α → Bool) (xs : List α) : List α := xs.foldr (insB lt) []
structure Lin (lt : α → α → Bool) : Prop where
  tri : ∀ x y, lt x y = false → lt y x = false → x = y
  asy : ∀ x y, lt x y = true → lt y x = false
  tr : ∀ x y z, lt x y = true → lt y z = true → lt x z = true
variable {lt : α → α → Bool}
theorem insB_mem (L : Lin lt) (x z : α) : ∀ ys : List α, z ∈ insB lt x ys ↔ z = x ∨ z ∈ ys
  | [] => by simp [insB]
  | y :: ys => by
    unfold insB
    by_cases h : lt x y = true
    · rw [if_pos h]
      simp
    · rw [if_neg h]
      by_cases h2 : lt y x = true
      · rw [if_pos h2, List.mem_cons, insB_mem L x z ys, List.mem_cons]
        constructor
        · rintro (a | a | a)
          · exact .inr (.inl a)
          · exact .inl a
          · exact .inr (.inr a)
        · rintro (a | a | a)
          · exact .inr (.inl a)
          · exact .inl a
          · exact .inr (.inr a)
      · rw [if_neg h2]
        have e := L.tri x y (by simpa using h) (by simpa using h2)
        subst e
        simp
theorem insB_asc (L : Lin lt) (x : α) : ∀ ys : List α, ys.Pairwise (fun a b => lt a b = true) → (insB lt x ys).Pairwise (fun a b => lt a b = true)
  | [], _ => by simp [insB]
  | y :: ys, h => by
    obtain ⟨h1, h2⟩ := List.pairwise_cons.mp h
    unfold insB
    by_cases q : lt x y = true
    · rw [if_pos q]
      refine List.pairwise_cons.mpr ⟨fun z hz => ?_, h⟩
      rcases List.mem_cons.mp hz with e | hz
      · rw [e]; exact q
      · exact L.tr _ _ _ q (h1 z hz)
    · rw [if_neg q]
      by_cases q2 : lt y x = true
      · rw [if_pos q2]
        refine List.pairwise_cons.mpr ⟨fun z hz => ?_, insB_asc L x ys h2⟩
        rcases (insB_mem L x z ys).mp hz with e | hz
        · rw [e]; exact q2
        · exact h1 z hz
      · rw [if_neg q2]
        exact h
theorem setB_mem (L : Lin lt) (z : α) : ∀ xs : List α, z ∈ setB lt xs ↔ z ∈ xs
  | [] => by simp [setB]
  | x :: xs => by
    show z ∈ insB lt x (setB lt xs) ↔ _
    rw [insB_mem L, setB_mem L z xs, List.mem_cons]
theorem setB_asc (L : Lin lt) : ∀ xs : List α, (setB lt xs).Pairwise (fun a b => lt a b = true)
  | [] => List.Pairwise.nil
  | x :: xs => insB_asc L x _ (setB_asc L xs)
theorem asc_nodup (L : Lin lt) {xs : List α} (h : xs.Pairwise (fun a b => lt a b = true)) : xs.Nodup := h.imp fun {a b} q e => by
  subst e
  have := L.asy a a q
  rw [q] at this
  cases this
/-- two rising lists of the same members -/
theorem asc_one (L : Lin lt) {xs ys : List α} (hx : xs.Pairwise (fun a b => lt a b = true)) (hy : ys.Pairwise (fun a b => lt a b = true)) (m : ∀ z, z ∈ xs ↔ z ∈ ys) : xs = ys :=
  List.Perm.eq_of_pairwise (fun a b _ _ h1 h2 => by rw [L.asy a b h1] at h2; cases h2) hx hy ((List.perm_ext_iff_of_nodup (asc_nodup L hx) (asc_nodup L hy)).mpr m)
theorem setIs_of {enc : α → PyData} (L : Lin lt) (inj : ∀ a b, enc a = enc b → a = b) (ord : ∀ a b, ltD (enc a) (enc b) = lt a b) (xs : List α) : SetIs (xs.map enc) ((setB lt xs).map enc) := by
  refine ⟨?_, fun d => ?_, ?_⟩
  · exact List.pairwise_map.mpr ((asc_nodup L (setB_asc L xs)).imp fun {a b} h e => h (inj a b e))
  · constructor
    · intro h
      obtain ⟨x, hx, e⟩ := List.mem_map.mp h
      exact List.mem_map.mpr ⟨x, (setB_mem L x xs).mp hx, e⟩
    · intro h
      obtain ⟨x, hx, e⟩ := List.mem_map.mp h
      exact List.mem_map.mpr ⟨x, (setB_mem L x xs).mpr hx, e⟩
  · refine List.pairwise_map.mpr ((setB_asc L xs).imp fun {a b} h => ?_)
    show ltD (enc b) (enc a) = false
    rw [ord]
    exact L.asy a b h
end
/-! ### numbers, lists of numbers -/
def ltN (a b : Nat) : Bool := decide (a < b)
theorem linN : Lin ltN := ⟨fun x y h1 h2 => by simp [ltN] at h1 h2; omega, fun x y h => by simp [ltN] at h ⊢; omega, fun x y z h1 h2 => by simp [ltN] at h1 h2 ⊢; omega⟩
def ltL : List Nat → List Nat → Bool
  | [], [] => false
  | [], _ :: _ => true
  | _ :: _, [] => false
  | x :: xs, y :: ys => if x < y then true else if y < x then false else ltL xs ys
theorem linL : Lin ltL := by
  refine ⟨?_, ?_, ?_⟩
  · intro x
    induction x with
    | nil => intro y h1 h2; cases y <;> simp [ltL] at h1 h2 ⊢
    | cons a x ih =>
      intro y h1 h2
      cases y with
      | nil => simp [ltL] at h2
      | cons b y =>
        simp only [ltL] at h1 h2
        by_cases q : a < b
        · simp [q] at h1
        · by_cases q2 : b < a
          · simp [q2] at h2
          · rw [if_neg q, if_neg q2] at h1
            rw [if_neg q2, if_neg q] at h2
            have e : a = b := by omega
            rw [e, ih y h1 h2]
  · intro x
    induction x with
    | nil => intro y h; cases y <;> simp [ltL] at h ⊢
    | cons a x ih =>
      intro y h
      cases y with
      | nil => simp [ltL] at h
      | cons b y =>
        simp only [ltL] at h ⊢
        by_cases q : a < b
        · rw [if_neg (by omega), if_pos q]
        · rw [if_neg q] at h
          by_cases q2 : b < a
          · simp [q2] at h
          · rw [if_neg q2] at h
            rw [if_neg q2, if_neg q]
            exact ih y h
  · intro x
    induction x with
    | nil =>
      intro y z h1 h2
      cases y with
      | nil => simp [ltL] at h1
      | cons b y =>
        cases z with
        | nil => simp [ltL] at h2
        | cons c z => rfl
    | cons a x ih =>
      intro y z h1 h2
      cases y with
      | nil => simp [ltL] at h1
      | cons b y =>
        cases z with
        | nil => simp [ltL] at h2
        | cons c z =>
          simp only [ltL] at h1 h2 ⊢
          by_cases q : a < b
          · by_cases q3 : b < c
            · rw [if_pos (by omega)]
            · rw [if_neg q3] at h2
              by_cases q4 : c < b
              · simp [q4] at h2
              · rw [if_pos (by omega)]
          · rw [if_neg q] at h1
            by_cases q2 : b < a
            · simp [q2] at h1
            · rw [if_neg q2] at h1
              have e : a = b := by omega
              subst e
              by_cases q3 : a < c
              · rw [if_pos q3]
              · rw [if_neg q3] at h2 ⊢
                by_cases q4 : c < a
                · simp [q4] at h2
                · rw [if_neg q4] at h2 ⊢
                  exact ih y z h1 h2
section
variable {nm : Nat → Str}
theorem ltD_N (H : NamX nm) (a b : Nat) : ltD (eN nm a) (eN nm b) = ltN a b := by
  rw [ltD]
  exact H.lt a b
theorem ltD_E (H : NamX nm) : ∀ a b : List Nat, ltAll (a.map (eN nm)) (b.map (eN nm)) = ltL a b
  | [], [] => by simp [ltAll, ltL]
  | [], _ :: _ => by simp [ltAll, ltL]
  | _ :: _, [] => by simp [ltAll, ltL]
  | a :: as, b :: bs => by
    rw [List.map_cons, List.map_cons, ltAll, ltL, ltD_N H, ltD_N H, ltD_E H as bs]
    simp [ltN]
theorem eN_inj (H : NamX nm) (a b : Nat) (h : eN nm a = eN nm b) : a = b := H.inj _ _ (by injection h)
theorem eE_inj (H : NamX nm) (a b : List Nat) (h : eE nm a = eE nm b) : a = b := by
  injection h with h
  exact List.map_inj_right (fun x y => eN_inj H x y) |>.mp h
/-- the set of some states -/
def setN (xs : List Nat) : List Nat := setB ltN xs
/-- a set of sets of states -/
def setL (xs : List (List Nat)) : List (List Nat) := setB ltL xs
theorem setIs_N (H : NamX nm) (xs : List Nat) : SetIs (xs.map (eN nm)) ((setN xs).map (eN nm)) := setIs_of linN (eN_inj H) (ltD_N H) xs
theorem setIs_L (H : NamX nm) (xs : List (List Nat)) : SetIs (xs.map (eE nm)) ((setL xs).map (eE nm)) := setIs_of linL (eE_inj H) (fun a b => by rw [ltD]; exact ltD_E H a b) xs
end
end J
/-! set_of at names and at sets of names. -/
namespace J
open PySem PySem.Spec L2
def subs {α : Type} : List α → List (List α)
  | [] => [[]]
  | x :: xs => subs xs ++ (subs xs).map (x :: ·)
theorem subs_len {α : Type} : ∀ xs : List α, (subs xs).length = 2 ^ xs.length
  | [] => rfl
  | x :: xs => by
    show (subs xs ++ (subs xs).map (x :: ·)).length = _
    rw [List.length_append, List.length_map, subs_len xs, List.length_cons, Nat.pow_succ]
    omega
abbrev Asc (e : List Nat) : Prop := e.Pairwise (fun a b => ltN a b = true)
theorem asc_cons {a : Nat} {e : List Nat} : Asc (a :: e) ↔ (∀ b ∈ e, a < b) ∧ Asc e := by
  unfold Asc
  rw [List.pairwise_cons]
  exact ⟨fun ⟨h1, h2⟩ => ⟨fun b hb => of_decide_eq_true (h1 b hb), h2⟩, fun ⟨h1, h2⟩ => ⟨fun b hb => decide_eq_true (h1 b hb), h2⟩⟩
/-- rising, below k + n, from k on -/
theorem asc_sub : ∀ (n k : Nat) (e : List Nat), Asc e → (∀ x ∈ e, k ≤ x ∧ x < k + n) → e ∈ subs (List.range' k n)
  | 0, k, [], _, _ => by simp [subs]
  | 0, k, a :: e, _, h => by have := h a List.mem_cons_self; omega
  | n + 1, k, [], _, _ => by
    rw [List.range'_succ]
    show [] ∈ subs _ ++ _
    exact List.mem_append_left _ (asc_sub n (k + 1) [] List.Pairwise.nil fun x hx => nomatch hx)
  | n + 1, k, a :: e, h, hb => by
    obtain ⟨h1, h2⟩ := asc_cons.mp h
    have ha := hb a List.mem_cons_self
    rw [List.range'_succ]
    show a :: e ∈ subs _ ++ _
    by_cases q : a = k
    · subst q
      refine List.mem_append_right _ (List.mem_map.mpr ⟨e, asc_sub n (a + 1) e h2 fun x hx => ?_, rfl⟩)
      have := h1 x hx
      have := hb x (List.mem_cons_of_mem _ hx)
      omega
    · refine List.mem_append_left _ (asc_sub n (k + 1) (a :: e) h fun x hx => ?_)
      rcases List.mem_cons.mp hx with e1 | hx'
      · rw [e1]; omega
      · have := h1 x hx'
        have := hb x hx
        omega
theorem asc_subs {m : Nat} {e : List Nat} (h : Asc e) (hb : ∀ x ∈ e, x < m) : e ∈ subs (List.range m) := by
  rw [List.range_eq_range']
  exact asc_sub m 0 e h fun x hx => ⟨Nat.zero_le _, by have := hb x hx; omega⟩
/-- an event's form: rising, not empty, of states below m -/
structure Ev (m : Nat) (e : List Nat) : Prop where
  asc : Asc e
  ne : e ≠ []
  lt : ∀ x ∈ e, x < m
section
variable {nm : Nat → Str}
theorem shp_E (H : NamX nm) (e : List Nat) : SeqAt.shaped (eE nm e) = true := by
  have h1 : ∀ e : List Nat, PyData.canLayAll0 (e.map (eN nm)) = true := fun e => by
    induction e with
    | nil => rfl
    | cons a e ih =>
      show ((eN nm a).canLay0 && PyData.canLayAll0 (e.map (eN nm))) = true
      rw [ih, show (eN nm a).canLay0 = true from H.ok a]
      rfl
  have h2 : ∀ e : List Nat, PyData.depthAll (e.map (eN nm)) ≤ 1 := fun e => by
    induction e with
    | nil => simp [PyData.depthAll]
    | cons a e ih =>
      simp only [List.map_cons, PyData.depthAll, PyData.depth]
      omega
  unfold SeqAt.shaped
  rw [show (eE nm e).canLay0 = true from h1 e, Bool.true_and, decide_eq_true_eq]
  have := h2 e
  simp only [PyData.depth]
  omega
theorem cmp_E (a b : List Nat) : cmpb (eE nm a) (eE nm b) = true := by
  have h : ∀ a b : List Nat, cmpbAll (a.map (eN nm)) (b.map (eN nm)) = true := fun a => by
    induction a with
    | nil => intro b; cases b <;> simp [cmpbAll]
    | cons x a ih =>
      intro b
      cases b with
      | nil => simp [cmpbAll]
      | cons y b => simp [cmpbAll, cmpb, ih b]
  rw [cmpb]
  exact h a b
theorem srt_N (H : NamX nm) (xs : List Nat) : SrtOk (xs.map (eN nm)) := ⟨fun d hd e he => by
  obtain ⟨a, _, rfl⟩ := List.mem_map.mp hd
  obtain ⟨b, _, rfl⟩ := List.mem_map.mp he
  rfl, .inr fun d hd => by
  obtain ⟨a, _, rfl⟩ := List.mem_map.mp hd
  exact ⟨(fun z => nomatch z), fun xs z => nomatch z⟩, fun d hd => by
  obtain ⟨a, _, rfl⟩ := List.mem_map.mp hd
  exact shaped_str (H.ok a)⟩
theorem srt_E (H : NamX nm) (xs : List (List Nat)) (ne : ∀ e ∈ xs, e ≠ []) : SrtOk (xs.map (eE nm)) := ⟨fun d hd e he => by
  obtain ⟨a, _, rfl⟩ := List.mem_map.mp hd
  obtain ⟨b, _, rfl⟩ := List.mem_map.mp he
  exact cmp_E a b, .inl fun d hd => by
  obtain ⟨a, ha, rfl⟩ := List.mem_map.mp hd
  cases a with
  | nil => exact absurd rfl (ne _ ha)
  | cons x a => exact ⟨_, _, rfl⟩, fun d hd => by
  obtain ⟨a, _, rfl⟩ := List.mem_map.mp hd
  exact shp_E H a⟩
theorem kd_N (xs : List Nat) : Kd (xs.map (eN nm)) := .inl ⟨xs.map nm, by rw [List.map_map]; rfl⟩
theorem kd_E (H : NamX nm) (xs : List (List Nat)) (ev : ∀ e ∈ xs, Ev 5 e) : Kd (xs.map (eE nm)) := by
  refine .inr (.inr ⟨xs.map fun e => e.map nm, by rw [List.map_map]; exact List.map_congr_left fun e _ => by show PyData.tuple _ = PyData.tuple _; rw [List.map_map]; rfl, fun M nd sub => ?_⟩)
  have h : ∀ k ∈ M, k ∈ (subs (List.range 5)).map fun e => e.map nm := fun k hk => by
    obtain ⟨e, he, rfl⟩ := List.mem_map.mp (sub k hk)
    exact List.mem_map.mpr ⟨e, asc_subs (ev e he).asc (ev e he).lt, rfl⟩
  have hl := List.Nodup.length_le_of_subset nd h
  rw [List.length_map, subs_len, List.length_range] at hl
  omega
theorem setof_N (H : NamX nm) (xs : List Nat) (hl : xs.length < 4000) : R_setof [aD (.list (xs.map (eN nm)))] (aD (eE nm (setN xs))) :=
  ⟨_, _, _, .inr rfl, rfl, rfl, kd_N xs, srt_N H xs, by rw [List.length_map]; exact hl, setIs_N H xs⟩
theorem setof_NT (H : NamX nm) (xs : List Nat) (hl : xs.length < 4000) : R_setof [aD (eE nm xs)] (aD (eE nm (setN xs))) :=
  ⟨_, _, _, .inl rfl, rfl, rfl, kd_N xs, srt_N H xs, by rw [List.length_map]; exact hl, setIs_N H xs⟩
theorem setof_L (H : NamX nm) (xs : List (List Nat)) (hl : xs.length < 4000) (ev : ∀ e ∈ xs, Ev 5 e) : R_setof [aD (eLs nm xs)] (aD (eEs nm (setL xs))) :=
  ⟨_, _, _, .inr rfl, rfl, rfl, kd_E H xs ev, srt_E H xs (fun e he => (ev e he).ne), by rw [List.length_map]; exact hl, setIs_L H xs⟩
theorem setN_ev {m : Nat} {xs : List Nat} (ne : xs ≠ []) (h : ∀ x ∈ xs, x < m) : Ev m (setN xs) := by
  refine ⟨setB_asc linN xs, fun z => ?_, fun x hx => h x ((setB_mem linN x xs).mp hx)⟩
  obtain ⟨a, ys, rfl⟩ : ∃ a ys, xs = a :: ys := by
    cases xs with
    | nil => exact absurd rfl ne
    | cons a ys => exact ⟨a, ys, rfl⟩
  have h2 := (setB_mem linN a (a :: ys)).mpr List.mem_cons_self
  rw [show setB ltN (a :: ys) = [] from z] at h2
  cases h2
end
end J
/-! table_of. -/
namespace J
open PySem PySem.Spec L2
/-- who is joined with j, as the moves tell it -/
def adjM (ts : List (Nat × Nat)) (j : Nat) : List Nat := ts.flatMap fun t => (if t.1 = j then [t.2] else []) ++ (if t.2 = j then [t.1] else [])
def Ch.near (c : Ch) (j : Nat) : List Nat := setN (adjM c.ti j)
theorem adjM_snoc (ts : List (Nat × Nat)) (t : Nat × Nat) (j : Nat) : adjM (ts ++ [t]) j = adjM ts j ++ ((if t.1 = j then [t.2] else []) ++ (if t.2 = j then [t.1] else [])) := by
  unfold adjM
  rw [List.flatMap_append]
  simp
theorem adjM_len (ts : List (Nat × Nat)) (j : Nat) : (adjM ts j).length ≤ 2 * ts.length := by
  induction ts with
  | nil => simp [adjM]
  | cons t ts ih =>
    have e : adjM (t :: ts) j = ((if t.1 = j then [t.2] else []) ++ (if t.2 = j then [t.1] else [])) ++ adjM ts j := by
      unfold adjM
      rw [List.flatMap_cons]
    have h1 : (if t.1 = j then [t.2] else []).length ≤ 1 := by split <;> simp
    have h2 : (if t.2 = j then [t.1] else []).length ≤ 1 := by split <;> simp
    rw [e, List.length_append, List.length_append, List.length_cons]
    omega
section
variable {P : Program} {w : World} {K : PySem.W.Frag} {mg : Str → Option Value} {base : Heap} {nm : Nat → Str} {f : Addr} {fd : FuncData} {k : Nat}
abbrev s_table : Stmt := topS 16
theorem c_table : FnScope ["chart", "found", "name", "word", "one", "other", "near"] ["chart"] (defScope s_table) := ⟨rfl, rfl, rfl, by decide +kernel, rfl, by decide +kernel, by decide +kernel⟩
/-- a name as a key -/
abbrev kN (nm : Nat → Str) (i : Nat) : L2.Key := .inr (nm i)
/-- the lists so far -/
def tabL (nm : Nat → Str) (m : Nat) (ts : List (Nat × Nat)) : List (L2.Key × List PyData) := (List.range m).map fun j => (kN nm j, (adjM ts j).map (eN nm))
def tabM (nm : Nat → Str) (c : Ch) : List (L2.Key × PyData) := (List.range c.m).map fun j => (kN nm j, eE nm (c.near j))
theorem tabL_keys (m : Nat) (ts : List (Nat × Nat)) : (tabL nm m ts).map (·.1) = (List.range m).map (kN nm) := by
  unfold tabL
  rw [List.map_map]
  rfl
theorem keys_nd (H : NamX nm) (m : Nat) : ((List.range m).map (kN nm)).Nodup := List.pairwise_map.mpr ((List.nodup_range).imp fun {a b} h e => h (H.inj a b (by injection e)))
theorem addTo_tab (H : NamX nm) (m : Nat) (g : Nat → List Nat) (a b : Nat) : addTo ((List.range m).map fun j => (kN nm j, (g j).map (eN nm))) (kN nm a) (eN nm b) = (List.range m).map fun j => (kN nm j, (g j ++ if a = j then [b] else []).map (eN nm)) := by
  unfold addTo
  rw [List.map_map]
  refine List.map_congr_left fun j _ => ?_
  show (if kN nm j = kN nm a then _ else _) = _
  by_cases h : a = j
  · subst h
    rw [if_pos rfl, if_pos rfl, List.map_append]
    rfl
  · rw [if_neg fun z => h (H.inj _ _ (by injection z)).symm, if_neg h, List.append_nil]
theorem tab_step (H : NamX nm) (m : Nat) (ts : List (Nat × Nat)) (t : Nat × Nat) : addTo (addTo (tabL nm m ts) (kN nm t.1) (eN nm t.2)) (kN nm t.2) (eN nm t.1) = tabL nm m (ts ++ [t]) := by
  unfold tabL
  rw [addTo_tab H, addTo_tab H]
  refine List.map_congr_left fun j _ => ?_
  rw [adjM_snoc, List.append_assoc]
def R_table (nm : Nat → Str) : Rl := fun As Z => ∃ c : Ch, c.Ok ∧ c.ti.length ≤ 20 ∧ As = [aD (dCh nm c)] ∧ Z = aMK (tabM nm c)
theorem bg2A {X : Cx} {scope : Scope} {tp tq tr : Pos} {kk : Nat} {x y : Str} {i j : Nat} {δ : DSt} {A C : AV} (hc : X.calm = true) (hN : X.N.Nodup) (hx : X.N[i]? = some x) (hy : X.N[j]? = some y) (hLx : Loc (relS scope X.env.scope) x) (hLy : Loc (relS scope X.env.scope) y)
    (hfx : (scope.names.lookup x == some .cell) = true ∨ (relS scope X.env.scope).names.lookup x = some .local) (hfy : (scope.names.lookup y == some .cell) = true ∨ (relS scope X.env.scope).names.lookup y = some .local) :
    Bk X scope fun Y => JG Y (.Tuple [.Name x tp, .Name y tq] kk tr) (aTA [A, C]) [i, j] δ ((δ.set i (some (.val A))).set j (some (.val C))) := fun s H Cc cl fp =>
  jg_TA (ws := [i] ++ ([j] ++ [])) (by first | rfl | exact hc) (jga_cons (jg_of (A := A) (gn_mk (tp := tp) hN hx hLx hfx s H Cc cl fp)) (jga_cons (jg_of (A := C) (gn_mk (tp := tq) hN hy hLy hfy s H Cc cl fp)) jga_nil))
theorem f_table (H : NamX nm) (F : Fun K "table_of" "table_of" s_table f fd) (C1 : Cal P w K mg base k "set_of" R_setof) : FnOk P w K mg base CX0 (k + 1) f fd ["chart"] (spJ (R_table nm)) := by
  refine fn_j F c_table (fun As Z ⟨i, _, _, e, _⟩ => by rw [e]; rfl) fun cdv A outer s H0 E As Z hr ⟨c, ok, tl, e1, e2⟩ => ?_
  subst e1 e2
  have hu := hr.un
  have m5 := ok.m5
  refine jb_dcL (own := [("name", 2), ("word", 3)]) (ws := [2, 3]) 1 (List.range c.m) (fun i => aD (dS nm c i)) (kN nm) (fun i => ((dwipe (d0 ["chart", "found", "name", "word", "one", "other", "near"] [aD (dCh nm c)]) [2, 3]).set 2 (some (.val (aD (eN nm i))))).set 3 (some (.val (aD (dW (c.wd i))))))
    (ji_T (xs := List.range c.m) (enc := dS nm c) (je_ixT (je_v 0) je_int rfl)) (blkOk_by (N := ["chart", "found", "name", "word", "one", "other", "near"]) (sc := defScope s_table) (by decide +kernel))
    (fun i hi => bg2 rfl c_table.nd rfl rfl (.inl rfl) (.inl rfl) (.inr rfl) (.inr rfl)) (fun i hi _ _ _ _ _ => je_v 2) (fun i hi _ _ _ _ _ => jn_lst ja_nil) (keys_nd H c.m) (by rw [List.length_range]; exact small (by omega)) rfl c_table.nd ?_
  refine jb_cons (M := fun δ' => ∃ c4 c5 : Option Cell, δ' = [some (.val (aD (dCh nm c))), some (.mut (mDL (tabL nm c.m c.ti))), none, none, c4, c5, none]) (js_for (I := fun i δ' => ∃ c4 c5 : Option Cell, δ' = [some (.val (aD (dCh nm c))), some (.mut (mDL (tabL nm c.m (c.ti.take i)))), none, none, c4, c5, none])
    (ji_T (xs := c.ti) (enc := dM nm) (je_ixT (je_v 0) je_int rfl)) PassesOwn.never rfl ⟨none, none, ?_⟩ (fun i A δ' hA ⟨c4, c5, e⟩ => ?_) (fun δ' ⟨c4, c5, e⟩ => ⟨c4, c5, ?_⟩)) fun δ' ⟨c4, c5, e⟩ => ?_
  · rfl
  · subst e
    rw [List.getElem?_map] at hA
    cases hx : c.ti[i]? with
    | none => rw [hx] at hA; cases hA
    | some t =>
      rw [hx] at hA
      cases hA
      obtain ⟨tt1, tt2⟩ := ok.t t (List.mem_of_getElem? hx)
      have mem : ∀ j, j < c.m → ∀ ts, kN nm j ∈ (tabL nm c.m ts).map (·.1) := fun j hj ts => by
        rw [tabL_keys]
        exact List.mem_map.mpr ⟨j, List.mem_range.mpr hj, rfl⟩
      have nd : ∀ ts, ((tabL nm c.m ts).map (·.1)).Nodup := fun ts => by rw [tabL_keys]; exact keys_nd H c.m
      have ltk : (c.ti.take i).length ≤ 20 := by rw [List.length_take]; omega
      refine ⟨_, _, jg_tup rfl (jgs_cons (jg_name 4 c_table.nd) (jgs_cons (jg_name 5 c_table.nd) jgs_nil)), ?_⟩
      refine jb_then (js_expr (je_dlApp (kvs := tabL nm c.m (c.ti.take i)) (k := kN nm t.1) 1 (by show (A.deeper _).units + 1 < cLine; omega) rfl (je_v 4) (je_v 5) (mem _ (by omega) _) (nd _) (fun kv hkv => ?_)) rfl) ?_
      · obtain ⟨j, _, rfl⟩ := List.mem_map.mp hkv
        have := adjM_len (c.ti.take i) j
        exact small (by show ((adjM (c.ti.take i) j).map (eN nm)).length + 1 ≤ 1000; rw [List.length_map]; omega)
      refine jb_cons (M := fun d => ∃ c4 c5 : Option Cell, d = [some (.val (aD (dCh nm c))), some (.mut (mDL (tabL nm c.m (c.ti.take (i + 1))))), none, none, c4, c5, none]) (js_expr (je_dlApp (kvs := addTo (tabL nm c.m (c.ti.take i)) (kN nm t.1) (eN nm t.2)) (k := kN nm t.2) 1 (by show (A.deeper _).units + 1 < cLine; omega) rfl (je_v 5) (je_v 4) (by rw [addTo_keys]; exact mem _ (by omega) _) (by rw [addTo_keys]; exact nd _) (fun kv hkv => ?_)) ?_) fun δ' h => jb_nil h
      · obtain ⟨kv', hkv', e⟩ := List.mem_map.mp hkv
        obtain ⟨j, _, rfl⟩ := List.mem_map.mp hkv'
        have := adjM_len (c.ti.take i) j
        have hl : kv.2.length ≤ (adjM (c.ti.take i) j).length + 1 := by
          rw [← e]
          split
          · simp
          · simp
        exact small (by omega)
      · refine ⟨some (.val (aD (eN nm t.1))), some (.val (aD (eN nm t.2))), ?_⟩
        rw [tab_step H, List.take_add_one, hx]
        rfl
  · rw [e, List.length_map, List.take_length]
  · subst e
    refine jb_frzDL (kvs := tabL nm c.m c.ti) 1 rfl (by unfold tabL; rw [List.length_map, List.length_range]; exact small (by omega)) ?_
    refine jb_ret (je_dc (own := [("name", 2), ("near", 6)]) (ws := [2, 6]) (List.range c.m) (fun j => aTA [aD (kD (kN nm j)), aD (.list ((adjM c.ti j).map (eN nm)))]) (kN nm) (fun j => eE nm (c.near j)) (fun j => ((dwipe [some (.val (aD (dCh nm c))), some (.val (aMKF (dlD (tabL nm c.m c.ti)))), none, none, c4, c5, none] [2, 6]).set 2 (some (.val (aD (eN nm j))))).set 6 (some (.val (aD (.list ((adjM c.ti j).map (eN nm)))))))
      (JI.eq (ji_items (je_v 1)) ?_) (blkOk_by (N := ["chart", "found", "name", "word", "one", "other", "near"]) (sc := defScope s_table) (by decide +kernel)) (fun j hj => bg2A rfl c_table.nd rfl rfl (.inl rfl) (.inl rfl) (.inr rfl) (.inr rfl)) (fun j hj _ _ _ _ _ => je_v 2)
      (fun j hj _ _ _ _ _ => je_call C1 hr (Nat.le_refl _) (ja_cons (je_v 6) ja_nil) (setof_N H _ (by have := adjM_len c.ti j; omega))) (keys_nd H c.m) (by rw [List.length_range]; exact small (by omega)) rfl c_table.nd) Ret.same
    unfold dlD tabL
    rw [List.map_map, List.map_map]
    rfl
end
end J
/-! short_walks, events. -/
namespace J
open PySem PySem.Spec L2
def Ch.rows (c : Ch) : Nat → List (List Nat)
  | 0 => (List.range c.m).map fun i => [i]
  | k + 1 => (c.rows k).flatMap fun r => (c.near (r.getLastD 0)).map fun f => r ++ [f]
def Ch.walks (c : Ch) : Nat → List (List Nat)
  | 0 => c.rows 0
  | k + 1 => c.walks k ++ c.rows (k + 1)
/-- the events, as rising lists, rising -/
def Ch.evs (c : Ch) (k : Nat) : List (List Nat) := setL ((c.walks k).map setN)
theorem adjM_lt {c : Ch} (ok : c.Ok) (j : Nat) : ∀ x ∈ adjM c.ti j, x < c.m := fun x hx => by
  unfold adjM at hx
  obtain ⟨t, ht, h⟩ := List.mem_flatMap.mp hx
  obtain ⟨t1, t2⟩ := ok.t t ht
  rcases List.mem_append.mp h with h | h
  · split at h
    · rw [List.mem_singleton.mp h]; exact t2
    · cases h
  · split at h
    · rw [List.mem_singleton.mp h]; omega
    · cases h
theorem near_lt {c : Ch} (ok : c.Ok) (j : Nat) : ∀ x ∈ c.near j, x < c.m := fun x hx => adjM_lt ok j x ((setB_mem linN x _).mp hx)
theorem near_len {c : Ch} (ok : c.Ok) (j : Nat) : (c.near j).length ≤ 5 := by
  have h := List.Nodup.length_le_of_subset (l₂ := List.range c.m) (asc_nodup linN (setB_asc linN (adjM c.ti j))) fun x hx => List.mem_range.mpr (near_lt ok j x hx)
  rw [List.length_range] at h
  exact Nat.le_trans h ok.m5
/-- a walk's form -/
structure Wk (m k : Nat) (r : List Nat) : Prop where
  len : r.length = k + 1
  lt : ∀ x ∈ r, x < m
theorem rows_wk {c : Ch} (ok : c.Ok) : ∀ k, ∀ r ∈ c.rows k, Wk c.m k r
  | 0, r, h => by
    obtain ⟨i, hi, rfl⟩ := List.mem_map.mp h
    exact ⟨rfl, fun x hx => by rw [List.mem_singleton.mp hx]; exact List.mem_range.mp hi⟩
  | k + 1, r, h => by
    obtain ⟨r', h1, h2⟩ := List.mem_flatMap.mp h
    obtain ⟨f, h3, rfl⟩ := List.mem_map.mp h2
    obtain ⟨l, lt⟩ := rows_wk ok k r' h1
    refine ⟨by rw [List.length_append, l]; rfl, fun x hx => ?_⟩
    rcases List.mem_append.mp hx with h | h
    · exact lt x h
    · rw [List.mem_singleton.mp h]
      exact near_lt ok _ f h3
theorem rows_len {c : Ch} (ok : c.Ok) : ∀ k, (c.rows k).length ≤ 5 * 5 ^ k
  | 0 => by
    show ((List.range c.m).map _).length ≤ _
    rw [List.length_map, List.length_range]
    have := ok.m5
    omega
  | k + 1 => by
    have h : ∀ l : List (List Nat), (l.flatMap fun r => (c.near (r.getLastD 0)).map fun f => r ++ [f]).length ≤ 5 * l.length := fun l => by
      induction l with
      | nil => simp
      | cons r l ih =>
        rw [List.flatMap_cons, List.length_append, List.length_map, List.length_cons]
        have := near_len ok (r.getLastD 0)
        omega
    have h1 := h (c.rows k)
    have h2 := rows_len ok k
    show ((c.rows k).flatMap _).length ≤ _
    rw [Nat.pow_succ]
    omega
theorem walks_len {c : Ch} (ok : c.Ok) : ∀ k, k ≤ 2 → (c.walks k).length ≤ 155
  | 0, _ => by have := rows_len ok 0; show (c.rows 0).length ≤ _; omega
  | 1, _ => by
    have h0 := rows_len ok 0
    have h1 := rows_len ok 1
    show (c.rows 0 ++ c.rows 1).length ≤ _
    rw [List.length_append]
    omega
  | 2, _ => by
    have h0 := rows_len ok 0
    have h1 := rows_len ok 1
    have h2 := rows_len ok 2
    show ((c.rows 0 ++ c.rows 1) ++ c.rows 2).length ≤ _
    rw [List.length_append, List.length_append]
    omega
theorem at_last {nm : Nat → Str} {r : List Nat} (h : r ≠ []) : atI (r.map (eN nm)) (-1) = some (eN nm (r.getLastD 0)) := by
  obtain ⟨l, x, rfl⟩ : ∃ l x, r = l ++ [x] := ⟨r.dropLast, r.getLast h, (List.dropLast_concat_getLast h).symm⟩
  have hl : ((l ++ [x]).map (eN nm)).length = l.length + 1 := by simp
  unfold atI
  have e : ixN ((l ++ [x]).map (eN nm)).length (-1) = some l.length := by
    unfold ixN
    rw [hl, if_neg (by decide), if_pos (by omega)]
    congr 1
    omega
  rw [e]
  show ((l ++ [x]).map (eN nm))[l.length]? = _
  simp
theorem lk_range {nm : Nat → Str} (H : NamX nm) {m j : Nat} (hj : j < m) (g : Nat → PyData) : lk ((List.range m).map fun i => (kN nm i, g i)) (kN nm j) = some (g j) := by
  unfold lk
  rw [List.find?_map]
  cases h : (List.range m).find? ((fun kv : L2.Key × PyData => decide (kv.1 = kN nm j)) ∘ fun i => (kN nm i, g i)) with
  | none =>
    have := List.find?_eq_none.mp h j (List.mem_range.mpr hj)
    simp at this
  | some i =>
    have h0 := List.find?_some h
    have h2 : decide (kN nm i = kN nm j) = true := h0
    have h3 : i = j := H.inj _ _ (by injection of_decide_eq_true h2)
    rw [h3]
    rfl
theorem tab_get {nm : Nat → Str} (H : NamX nm) {c : Ch} {j : Nat} (hj : j < c.m) : lk (tabM nm c) (kN nm j) = some (eE nm (c.near j)) := lk_range H hj _
theorem rows_out {nm : Nat → Str} (c : Ch) (i : Nat) : (c.rows i).flatMap (out2 (fun r => c.near (r.getLastD 0)) (fun _ _ => true) fun r y => eE nm (r ++ [y])) = (c.rows (i + 1)).map (eE nm) := by
  show _ = ((c.rows i).flatMap _).map _
  rw [List.map_flatMap]
  refine congrArg (fun g => (c.rows i).flatMap g) (funext fun r => ?_)
  show ((c.near (r.getLastD 0)).filter fun _ => true).map _ = ((c.near (r.getLastD 0)).map _).map _
  rw [List.filter_eq_self.mpr fun _ _ => rfl, List.map_map]
  rfl
section
variable {P : Program} {w : World} {K : PySem.W.Frag} {mg : Str → Option Value} {base : Heap} {nm : Nat → Str} {f : Addr} {fd : FuncData} {k : Nat}
abbrev s_walks : Stmt := topS 17
theorem c_walks : FnScope ["chart", "long", "rows", "near", "name", "found", "turn", "row", "far"] ["chart", "long"] (defScope s_walks) := ⟨rfl, rfl, rfl, by decide +kernel, rfl, by decide +kernel, by decide +kernel⟩
def R_walks (nm : Nat → Str) : Rl := fun As Z => ∃ (c : Ch) (k : Nat), c.Ok ∧ c.ti.length ≤ 20 ∧ k ≤ 2 ∧ As = [aD (dCh nm c), aI (k : Int)] ∧ Z = aD (eLs nm (c.walks k))
theorem f_walks (H : NamX nm) (F : Fun K "short_walks" "short_walks" s_walks f fd) (C1 : Cal P w K mg base k "names" (R_names nm)) (C2 : Cal P w K mg base k "table_of" (R_table nm)) (m1 : mg "list" = none) (m2 : mg "range" = none) : FnOk P w K mg base CX0 (k + 1) f fd ["chart", "long"] (spJ (R_walks nm)) := by
  refine fn_j F c_walks (fun As Z ⟨i, _, _, _, _, e, _⟩ => by rw [e]; rfl) fun cdv A0 outer s H0 E As Z hr ⟨c, n, ok, tl, hn, e1, e2⟩ => ?_
  subst e1 e2
  have hu := hr.un
  have m5 := ok.m5
  have e0 : (List.range c.m).map (fun i => eE nm [i]) = (c.rows 0).map (eE nm) := by
    show _ = ((List.range c.m).map _).map _
    rw [List.map_map]
    rfl
  refine jb_tupX (is := [2, 3]) (cs := [.mut (mL ((List.range c.m).map fun i => eE nm [i])), .val (aMK (tabM nm c))]) rfl (jxs_cons (jx_lst (jn_m 4 (List.range c.m) (eN nm) (fun i => eE nm [i]) (ji_T (je_call C1 hr (Nat.le_refl _) (ja_cons (je_v 0) ja_nil) ⟨c, rfl, rfl⟩)) (blkOk_by (N := ["chart", "long", "rows", "near", "name", "found", "turn", "row", "far"]) (sc := defScope s_walks) (by decide +kernel)) (fun y hy _ _ _ _ _ => je_tup (ds := [eN nm y]) (ja_cons (je_v 4) ja_nil)) rfl c_walks.nd)) (jxs_cons (jx_of (je_call C2 hr (Nat.le_refl _) (ja_cons (je_v 0) ja_nil) ⟨c, ok, tl, rfl, rfl⟩)) jxs_nil)) (gns_cons 2 c_walks.nd (gns_cons 3 c_walks.nd gns_nil)) (by decide) rfl (show 2 ≤ 64 by decide) ?_
  rw [e0]
  refine jb_frz (ds := (c.rows 0).map (eE nm)) 2 rfl ?_
  refine jb_setL 5 c_walks.nd (jn_list (ds := (c.rows 0).map (eE nm)) (.inl rfl) m1 (je_v 2)) ?_
  let δi : Nat → Option Cell → DSt := fun i c6 => [some (.val (aD (dCh nm c))), some (.val (aI (n : Int))), some (.val (aD (eLs nm (c.rows i)))), some (.val (aMK (tabM nm c))), none, some (.mut (mL ((c.walks i).map (eE nm)))), c6, none, none]
  refine jb_cons (M := fun δ' => ∃ c6, δ' = δi n c6) (js_for (I := fun i δ' => i ≤ n ∧ ∃ c6, δ' = δi i c6) (ji_range (n := (n : Int)) m2 (je_v 1) ⟨by omega, by omega⟩) PassesOwn.never rfl ⟨Nat.zero_le _, none, rfl⟩ (fun i A δ' hA ⟨hi, c6, e⟩ => ?_) (fun δ' ⟨_, c6, e⟩ => ⟨c6, ?_⟩)) fun δ' ⟨c6, e⟩ => ?_
  · subst e
    refine ⟨_, _, jg_name 6 c_walks.nd, ?_⟩
    have hi2 : i + 1 ≤ n := by
      have := (List.getElem?_eq_some_iff.mp hA).1
      rw [List.length_map, List.length_range] at this
      omega
    refine jb_lc2 (own := [("row", 7), ("far", 8)]) (ws := [7]) (ws1 := [8]) 2 (c.rows i) (fun r => aD (eE nm r)) (fun r => c.near (r.getLastD 0)) (fun r y => aD (eN nm y)) (fun _ _ => true) (fun r y => eE nm (r ++ [y])) (fun r => (dwipe ((δi i c6).set 6 (some (.val A))) [7, 8]).set 7 (some (.val (aD (eE nm r))))) (fun r y => (dwipe ((dwipe ((δi i c6).set 6 (some (.val A))) [7, 8]).set 7 (some (.val (aD (eE nm r))))) [8]).set 8 (some (.val (aD (eN nm y))))) [8]
      (ji_L (je_v 2)) (blkOk_by (N := ["chart", "long", "rows", "near", "name", "found", "turn", "row", "far"]) (sc := defScope s_walks) (by decide +kernel)) (by decide) (fun r hm s0 H1 Cc cl fp => jg_of (gn_mk c_walks.nd rfl (.inl rfl) (.inr rfl) s0 H1 Cc cl fp)) (fun r hm _ _ _ _ _ => ?_) (fun r hm y hy s0 H1 Cc cl fp => jg_of (gn_mk c_walks.nd rfl (.inl rfl) (.inr rfl) s0 H1 Cc cl fp)) (fun r hm y hy _ _ _ _ _ => jts_nil) (fun r hm y hy _ _ _ _ _ _ => ?_) ?_ rfl c_walks.nd ?_
    · have w := rows_wk ok i r hm
      have hne : r ≠ [] := fun z => by have := w.len; rw [z] at this; simp at this
      have hl : r.getLastD 0 < c.m := by
        obtain ⟨l, x, rfl⟩ : ∃ l x, r = l ++ [x] := ⟨r.dropLast, r.getLast hne, (List.dropLast_concat_getLast hne).symm⟩
        have := w.lt x (by simp)
        simpa using this
      exact ji_T (xs := c.near (r.getLastD 0)) (enc := eN nm) (je_dgetK (k := kN nm (r.getLastD 0)) (by show (A0.deeper _).units + 1 < cLine; omega) (je_v 3) (je_ixT (je_v 7) (je_neg je_int) (at_last hne)) (tab_get H hl))
    · have w := rows_wk ok i r hm
      have e9 : (r ++ [y]).map (eN nm) = r.map (eN nm) ++ [eN nm y] := by rw [List.map_append]; rfl
      show JE _ _ _ _ (aD (.tuple ((r ++ [y]).map (eN nm))))
      refine je_tup ?_ (by rw [List.length_map, List.length_append, w.len]; exact small (by simp; omega))
      rw [e9, List.map_append]
      exact ja_star (.inr rfl) (je_v 7) (ja_cons (je_v 8) ja_nil)
    · rw [rows_out, List.length_map]
      have h := rows_len ok (i + 1)
      have : 5 ^ (i + 1) ≤ 5 ^ 2 := Nat.pow_le_pow_right (by decide) (by omega)
      exact small (by omega)
    · rw [rows_out]
      refine jb_frz (ds := (c.rows (i + 1)).map (eE nm)) 2 rfl ?_
      refine jb_cons (M := fun d => i + 1 ≤ n ∧ ∃ c6, d = δi (i + 1) c6) (js_expr (je_extend (ds := (c.walks i).map (eE nm)) (es := (c.rows (i + 1)).map (eE nm)) 5 rfl (je_v 2) rfl ?_) ?_) fun δ' h => jb_nil h
      · have h0 := walks_len ok i (by omega)
        have h := rows_len ok (i + 1)
        have : 5 ^ (i + 1) ≤ 5 ^ 2 := Nat.pow_le_pow_right (by decide) (by omega)
        rw [List.length_map, List.length_map]
        exact small (by omega)
      · refine ⟨hi2, some (.val A), ?_⟩
        rw [← List.map_append]
        rfl
  · rw [e, List.length_map, List.length_range]
    rfl
  · subst e
    exact jb_frz (ds := (c.walks n).map (eE nm)) 5 rfl (jb_ret (je_v 5) Ret.same)
end
end J
/-! events. -/
namespace J
open PySem PySem.Spec L2
theorem walks_wk {c : Ch} (ok : c.Ok) : ∀ k, ∀ r ∈ c.walks k, ∃ j, j ≤ k ∧ Wk c.m j r
  | 0, r, h => ⟨0, Nat.le_refl _, rows_wk ok 0 r h⟩
  | k + 1, r, h => by
    rcases List.mem_append.mp (show r ∈ c.walks k ++ c.rows (k + 1) from h) with h | h
    · obtain ⟨j, h1, h2⟩ := walks_wk ok k r h
      exact ⟨j, by omega, h2⟩
    · exact ⟨k + 1, Nat.le_refl _, rows_wk ok _ r h⟩
theorem setN_len (xs : List Nat) : (setN xs).length ≤ xs.length := List.Nodup.length_le_of_subset (asc_nodup linN (setB_asc linN xs)) fun x hx => (setB_mem linN x xs).mp hx
/-- an event over at most k moves -/
theorem evs_ev {c : Ch} (ok : c.Ok) {k : Nat} : ∀ e ∈ c.evs k, Ev c.m e ∧ e.length ≤ k + 1 := fun e he => by
  obtain ⟨r, hr, rfl⟩ := List.mem_map.mp ((setB_mem linL e _).mp he)
  obtain ⟨j, hj, w⟩ := walks_wk ok k r hr
  have l := w.len
  have := setN_len r
  exact ⟨setN_ev (fun z => by rw [z] at l; simp at l) w.lt, by omega⟩
section
variable {P : Program} {w : World} {K : PySem.W.Frag} {mg : Str → Option Value} {base : Heap} {nm : Nat → Str} {f : Addr} {fd : FuncData} {k : Nat}
abbrev s_events : Stmt := topS 18
theorem c_events : FnScope ["chart", "long", "row"] ["chart", "long"] (defScope s_events) := ⟨rfl, rfl, rfl, by decide +kernel, rfl, by decide +kernel, by decide +kernel⟩
def R_events (nm : Nat → Str) : Rl := fun As Z => ∃ (c : Ch) (k : Nat), c.Ok ∧ c.ti.length ≤ 20 ∧ k ≤ 2 ∧ As = [aD (dCh nm c), aI (k : Int)] ∧ Z = aD (eEs nm (c.evs k))
theorem f_events (H : NamX nm) (F : Fun K "events" "events" s_events f fd) (C1 : Cal P w K mg base k "short_walks" (R_walks nm)) (C2 : Cal P w K mg base k "set_of" R_setof) : FnOk P w K mg base CX0 (k + 1) f fd ["chart", "long"] (spJ (R_events nm)) := by
  refine fn_j F c_events (fun As Z ⟨i, _, _, _, _, e, _⟩ => by rw [e]; rfl) fun cdv A0 outer s H0 E As Z hr ⟨c, n, ok, tl, hn, e1, e2⟩ => ?_
  subst e1 e2
  have hw := walks_len ok n hn
  have hev : ∀ e ∈ (c.walks n).map setN, Ev 5 e := fun e he => by
    obtain ⟨r, hr, rfl⟩ := List.mem_map.mp he
    obtain ⟨j, hj, w⟩ := walks_wk ok n r hr
    have l := w.len
    have z := setN_ev (xs := r) (fun z => by rw [z] at l; simp at l) w.lt
    exact ⟨z.asc, z.ne, fun x hx => Nat.lt_of_lt_of_le (z.lt x hx) ok.m5⟩
  refine jb_ret (je_call C2 hr (Nat.le_refl _) (ja_cons (JE.eq (JN.dat (jn_m 2 (c.walks n) (eE nm) (fun r => eE nm (setN r)) (ji_L (je_call C1 hr (Nat.le_refl _) (ja_cons (je_v 0) (ja_cons (je_v 1) ja_nil)) ⟨c, n, ok, tl, hn, rfl, rfl⟩)) (blkOk_by (N := ["chart", "long", "row"]) (sc := defScope s_events) (by decide +kernel))
    (fun r hm _ _ _ _ _ => je_call C2 hr (Nat.le_refl _) (ja_cons (je_v 2) ja_nil) (setof_NT H r ?_)) rfl c_events.nd)) (d' := eLs nm ((c.walks n).map setN)) ?_) ja_nil) (setof_L H _ (by rw [List.length_map]; omega) hev)) Ret.same
  · obtain ⟨j, hj, w⟩ := walks_wk ok n r hm
    rw [w.len]
    omega
  · show PyData.list _ = PyData.list (((c.walks n).map setN).map (eE nm))
    rw [List.map_map]
    rfl
end
end J
/-! to_part. -/
namespace J
open PySem PySem.Spec L2
/-- the pairs of sets without a common member -/
def apartM (es : List (List Nat)) : List (List Nat × List Nat) := es.zipIdx.flatMap fun x => ((es.drop (x.2 + 1)).filter fun o => !meetM x.1 o).map fun o => (x.1, o)
section
variable {P : Program} {w : World} {K : PySem.W.Frag} {mg : Str → Option Value} {base : Heap} {nm : Nat → Str} {f : Addr} {fd : FuncData} {k : Nat}
abbrev dPr (nm : Nat → Str) (p : List Nat × List Nat) : PyData := .tuple [eE nm p.1, eE nm p.2]
abbrev s_topart : Stmt := topS 22
theorem c_topart : FnScope ["chart", "long", "every", "place", "one", "other"] ["chart", "long"] (defScope s_topart) := ⟨rfl, rfl, rfl, by decide +kernel, rfl, by decide +kernel, by decide +kernel⟩
def R_topart (nm : Nat → Str) : Rl := fun As Z => ∃ (c : Ch) (k : Nat), c.Ok ∧ c.ti.length ≤ 20 ∧ k ≤ 2 ∧ As = [aD (dCh nm c), aI (k : Int)] ∧ Z = aD (.list ((apartM (c.evs k)).map (dPr nm)))
theorem evs_len {c : Ch} (ok : c.Ok) (k : Nat) : (c.evs k).length ≤ 32 := by
  have h := List.Nodup.length_le_of_subset (l₂ := subs (List.range 5)) (asc_nodup linL (setB_asc linL ((c.walks k).map setN))) fun e he => by
    have ev := (evs_ev ok (k := k) e he).1
    exact asc_subs ev.asc fun x hx => Nat.lt_of_lt_of_le (ev.lt x hx) ok.m5
  rw [subs_len, List.length_range] at h
  exact h
theorem apart_len (es : List (List Nat)) : (apartM es).length ≤ es.length * es.length := by
  have h : ∀ l : List (List Nat × Nat), (l.flatMap fun x => ((es.drop (x.2 + 1)).filter fun o => !meetM x.1 o).map fun o => (x.1, o)).length ≤ l.length * es.length := fun l => by
    induction l with
    | nil => simp
    | cons x l ih =>
      rw [List.flatMap_cons, List.length_append, List.length_map, List.length_cons, Nat.succ_mul]
      have h1 := List.length_filter_le (fun o => !meetM x.1 o) (es.drop (x.2 + 1))
      rw [List.length_drop] at h1
      omega
  have := h es.zipIdx
  rw [List.length_zipIdx] at this
  exact this
theorem apart_out (es : List (List Nat)) : es.zipIdx.flatMap (out2 (fun x => es.drop (x.2 + 1)) (fun x o => !meetM x.1 o) fun x o => dPr nm (x.1, o)) = (apartM es).map (dPr nm) := by
  unfold apartM
  rw [List.map_flatMap]
  refine congrArg (fun g => es.zipIdx.flatMap g) (funext fun x => ?_)
  show List.map _ _ = List.map _ (List.map _ _)
  rw [List.map_map]
  rfl
theorem f_topart (H : NamX nm) (F : Fun K "to_part" "to_part" s_topart f fd) (C1 : Cal P w K mg base k "events" (R_events nm)) (C2 : Cal P w K mg base k "meet" (R_meet nm)) (m1 : mg "enumerate" = none) : FnOk P w K mg base CX0 (k + 1) f fd ["chart", "long"] (spJ (R_topart nm)) := by
  refine fn_j F c_topart (fun As Z ⟨i, _, _, _, _, e, _⟩ => by rw [e]; rfl) fun cdv A0 outer s H0 E As Z hr ⟨c, n, ok, tl, hn, e1, e2⟩ => ?_
  subst e1 e2
  refine jb_set 2 c_topart.nd (je_call C1 hr (Nat.le_refl _) (ja_cons (je_v 0) (ja_cons (je_v 1) ja_nil)) ⟨c, n, ok, tl, hn, rfl, rfl⟩) ?_
  have e0 : apartM (c.evs n) = apartM (c.evs n) := rfl
  let δ0 : DSt := (d0 ["chart", "long", "every", "place", "one", "other"] [aD (dCh nm c), aI (n : Int)]).set 2 (some (.val (aD (eEs nm (c.evs n)))))
  have hl := evs_len ok n
  have hl2 := apart_len (c.evs n)
  have hl3 : (c.evs n).length * (c.evs n).length ≤ 32 * 32 := Nat.mul_le_mul hl hl
  refine jb_ret (A := aD (.list ((apartM (c.evs n)).map (dPr nm)))) (JE.eq (JN.dat (jn_lc2 (own := [("place", 3), ("one", 4), ("other", 5)]) (ws := [3, 4]) (ws1 := [5]) ((c.evs n).zipIdx) (fun x => aTA [aI (x.2 : Int), aD (eE nm x.1)]) (fun x => (c.evs n).drop (x.2 + 1)) (fun x o => aD (eE nm o)) (fun x o => !meetM x.1 o) (fun x o => dPr nm (x.1, o))
    (fun x => ((dwipe δ0 [3, 4, 5]).set 3 (some (.val (aI (x.2 : Int))))).set 4 (some (.val (aD (eE nm x.1))))) (fun x o => (dwipe (((dwipe δ0 [3, 4, 5]).set 3 (some (.val (aI (x.2 : Int))))).set 4 (some (.val (aD (eE nm x.1))))) [5]).set 5 (some (.val (aD (eE nm o))))) [5]
    (JI.eq (ji_enumT m1 (je_v 2)) ?_) (blkOk_by (N := ["chart", "long", "every", "place", "one", "other"]) (sc := defScope s_topart) (by decide +kernel)) (by decide) (fun x hx => bg2A rfl c_topart.nd rfl rfl (.inl rfl) (.inl rfl) (.inr rfl) (.inr rfl)) (fun x hx _ _ _ _ _ => ?_) (fun x hx o ho s0 H1 Cc cl fp => jg_of (gn_mk c_topart.nd rfl (.inl rfl) (.inr rfl) s0 H1 Cc cl fp))
    (fun x hx o ho s0 H1 Cc cl fp => jts_one (jt_not (jt_val (je_call C2 hr (Nat.le_refl _) (ja_cons (je_v 4) (ja_cons (je_v 5) ja_nil)) ⟨_, _, rfl, rfl⟩)))) (fun x hx o ho hp _ _ _ _ _ => je_tup (ds := [eE nm x.1, eE nm o]) (ja_cons (je_v 4) (ja_cons (je_v 5) ja_nil))) ?_ rfl c_topart.nd)) ?_) Ret.same
  · unfold enumA
    rw [List.map_map, List.zipIdx_map, List.map_map]
    rfl
  · refine JI.eq (ji_tup (JE.eq (je_slT (ds := (c.evs n).map (eE nm)) (je_v 2) (jo_some (je_add (je_v 3) je_int)) jo_none) (d' := .tuple (((c.evs n).drop (x.2 + 1)).map (eE nm))) ?_)) (by rw [List.map_map]; rfl)
    have h := cutD_from (ds := (c.evs n).map (eE nm)) (x.2 + 1)
    rw [← List.map_drop] at h
    rw [← h]
    rfl
  · rw [apart_out, List.length_map, sizeLine_eq]
    omega
  · rw [apart_out]
end
end J
/-! family_from of bits. -/
namespace J
open PySem PySem.Spec L2
/-- some more events, meeting two by two, without a common state -/
def famM (es : List (List Nat)) : Nat → List (List Nat) → Option (List (List Nat))
  | n, fam => match commonM fam with
    | [] => some fam
    | x :: _ => match n with
      | 0 => none
      | n + 1 => es.findSome? fun e => if !e.contains x && fam.all (fun o => meetM e o) then famM es n (fam ++ [e]) else none
section
variable {X : Cx} {δ δ1 : DSt} {a : Expr} {pos : Pos} {d : PyData}
theorem jt_is (ha : JE X a δ δ1 (aD d)) {j : Nat} {p2 : Pos} : JT X (.Compare a [.Is] [.Constant .none j p2] pos) δ δ1 (isNon d) := by
  refine jt_cmp (C := aN) op_isN (fun B H x y Q _ h1 h2 q => ⟨Dd.non_eq h2, ?_⟩) ha je_non
  rw [Dd.isNon h1]
  exact q _ B H (.refl B H) (.bl _)
theorem jt_isnot (ha : JE X a δ δ1 (aD d)) {j : Nat} {p2 : Pos} : JT X (.Compare a [.IsNot] [.Constant .none j p2] pos) δ δ1 (!isNon d) := by
  refine jt_cmp (C := aN) op_notN (fun B H x y Q _ h1 h2 q => ⟨Dd.non_eq h2, ?_⟩) ha je_non
  rw [Dd.isNon h1]
  exact q _ B H (.refl B H) (.bl _)
end
theorem findSome_take {α β : Type} {l : List α} {g : α → Option β} {i : Nat} {x : α} (hx : l[i]? = some x) (h : ∀ y ∈ l.take i, g y = none) {b : β} (hb : g x = some b) : l.findSome? g = some b := by
  have e1 : l = l.take i ++ x :: l.drop (i + 1) := by
    obtain ⟨hl, he⟩ := (List.getElem?_eq_some_iff.mp hx)
    rw [← he, List.getElem_cons_drop, List.take_append_drop]
  rw [e1, List.findSome?_append, List.findSome?_eq_none_iff.mpr h, List.findSome?_cons, hb]
  rfl
section
variable {P : Program} {w : World} {K : PySem.W.Frag} {mg : Str → Option Value} {base : Heap} {nm : Nat → Str} {f : Addr} {fd : FuncData} {k : Nat}
def optL (nm : Nat → Str) : Option (List (List Nat)) → PyData
  | some l => eLs nm l
  | none => .none
theorem len0 (fam : List (List Nat)) : ((((commonM fam).map (eN nm)).length : Int) == 0) = (commonM fam).isEmpty := by
  rw [List.length_map]
  cases commonM fam with
  | nil => rfl
  | cons a l =>
    show _ = false
    rw [List.length_cons, beq_eq_false_iff_ne]
    omega
theorem famM_e {es fam : List (List Nat)} {n : Nat} (h : (commonM fam).isEmpty = true) : famM es n fam = some fam := by
  have e := List.isEmpty_iff.mp h
  unfold famM
  rw [e]
theorem famM_0 {es fam : List (List Nat)} (h : (commonM fam).isEmpty = false) : famM es 0 fam = none := by
  cases e : commonM fam with
  | nil => rw [e] at h; cases h
  | cons x xs =>
    unfold famM
    rw [e]
theorem famM_s {es fam : List (List Nat)} {n x : Nat} {xs : List Nat} (h : commonM fam = x :: xs) : famM es (n + 1) fam = es.findSome? fun e => if !e.contains x && fam.all (fun o => meetM e o) then famM es n (fam ++ [e]) else none := by
  rw [famM]
  rw [h]
abbrev s_fam : Stmt := topS 24
theorem c_fam : FnScope ["every", "family", "left", "common", "event", "own", "found"] ["every", "family", "left"] (defScope s_fam) := ⟨rfl, rfl, rfl, by decide +kernel, rfl, by decide +kernel, by decide +kernel⟩
def R_fam (nm : Nat → Str) (n : Nat) : Rl := fun As Z => ∃ (es fam : List (List Nat)), fam ≠ [] ∧ fam.length + n ≤ 100 ∧ As = [aD (eEs nm es), aD (eLs nm fam), aI (n : Int)] ∧ Z = aD (optL nm (famM es n fam))
theorem f_fam (H : NamX nm) (F : Fun K "family_from" "family_from" s_fam f fd) (g : mg "family_from_bits" = some (.ref f)) (kp : PySem.W.keepIn K (.ref f) = true) (bd : Binds K fd ["every", "family", "left"] []) (C1 : Cal P w K mg base k "common_of" (R_common nm)) (C2 : Cal P w K mg base k "meet" (R_meet nm)) (m1 : mg "len" = none) (m2 : mg "all" = none) :
    ∀ n, FnOk P w K mg base CX0 (k + n + 1) f fd ["every", "family", "left"] (spJ (R_fam nm n)) := by
  intro n
  induction n with
  | zero =>
    refine fn_j F c_fam (fun As Z ⟨i, _, _, _, e, _⟩ => by rw [e]; rfl) fun cdv A0 outer s H0 E As Z hr ⟨es, fam, ne, fl, e1, e2⟩ => ?_
    subst e1 e2
    refine jb_set 3 c_fam.nd (je_call C1 hr (Nat.le_refl _) (ja_cons (je_v 1) ja_nil) ⟨fam, ne, rfl, rfl⟩) ?_
    refine jb_ifR (p := (commonM fam).isEmpty) (JT.eq (jt_cmp op_eq rop_eqI (je_lenT m1 (je_v 3)) je_int) (len0 fam)) (fun h => ?_) fun h => ?_
    · rw [famM_e h]
      exact jb_ret (je_v 1) Ret.same
    · refine jb_ifR (p := true) (jt_cmp op_eq rop_eqI (je_v 2) je_int) (fun _ => ?_) (fun z => by cases z)
      rw [famM_0 h]
      exact jb_ret je_non Ret.same
  | succ n ih =>
    have C0 : Cal P w K mg base (k + n + 1) "family_from_bits" (R_fam nm n) := ⟨f, fd, _, ih, g, kp, bd⟩
    refine fn_j F c_fam (fun As Z ⟨i, _, _, _, e, _⟩ => by rw [e]; rfl) fun cdv A0 outer s H0 E As Z hr ⟨es, fam, ne, fl, e1, e2⟩ => ?_
    subst e1 e2
    refine jb_set 3 c_fam.nd (je_call C1 hr (by omega) (ja_cons (je_v 1) ja_nil) ⟨fam, ne, rfl, rfl⟩) ?_
    refine jb_ifR (p := (commonM fam).isEmpty) (JT.eq (jt_cmp op_eq rop_eqI (je_lenT m1 (je_v 3)) je_int) (len0 fam)) (fun h => ?_) fun h => ?_
    · rw [famM_e h]
      exact jb_ret (je_v 1) Ret.same
    · refine jb_ifR (p := false) (JT.eq (jt_cmp op_eq rop_eqI (je_v 2) je_int) (by simp; omega)) (fun z => by cases z) (fun _ => ?_)
      obtain ⟨x, xs, hx⟩ : ∃ x xs, commonM fam = x :: xs := by
        cases hc : commonM fam with
        | nil => rw [hc] at h; cases h
        | cons x xs => exact ⟨x, xs, rfl⟩
      rw [famM_s hx]
      let gE : List Nat → Option (List (List Nat)) := fun e => if !e.contains x && fam.all (fun o => meetM e o) then famM es n (fam ++ [e]) else none
      show JB _ _ _ (Ret (aD (optL nm (es.findSome? gE))))
      let δi : Option Cell → Option Cell → DSt := fun c4 c6 => [some (.val (aD (eEs nm es))), some (.val (aD (eLs nm fam))), some (.val (aI ((n + 1 : Nat) : Int))), some (.val (aD (eE nm (commonM fam)))), c4, none, c6]
      refine jb_cons (M := fun δ' => (∀ e ∈ es, gE e = none) ∧ ∃ c4 c6, δ' = δi c4 c6) (js_for (I := fun i δ' => (∀ e ∈ es.take i, gE e = none) ∧ ∃ c4 c6, δ' = δi c4 c6) (ji_T (xs := es) (enc := eE nm) (je_v 0)) PassesOwn.never rfl ⟨(fun e he => by simp at he), none, none, rfl⟩ (fun i A δ' hA ⟨hi, c4, c6, e⟩ => ?_) (fun δ' ⟨hi, c4, c6, e⟩ => ⟨?_, c4, c6, e⟩)) fun δ' ⟨hi, c4, c6, e⟩ => ?_
      · subst e
        rw [List.getElem?_map] at hA
        cases hxe : es[i]? with
        | none => rw [hxe] at hA; cases hA
        | some ev =>
          rw [hxe] at hA
          cases hA
          refine ⟨_, _, jg_name 4 c_fam.nd, ?_⟩
          let δe : Option Cell → DSt := fun c6 => δi (some (.val (aD (eE nm ev)))) c6
          have last : ∀ {c6' : Option Cell}, gE ev = none → ((∀ e ∈ es.take (i + 1), gE e = none) ∧ ∃ c4 c6, δe c6' = δi c4 c6) := fun hn => ⟨fun e he => by
            rw [List.take_add_one, hxe] at he
            rcases List.mem_append.mp he with he | he
            · exact hi e he
            · have e2 : e = ev := by simpa using he
              rw [e2]
              exact hn, _, _, rfl⟩
          show JB _ _ (δe c6) _
          let q := (!ev.contains x && fam.all (fun o => meetM ev o))
          refine jb_cons (M := fun d => (∀ e ∈ es.take (i + 1), gE e = none) ∧ ∃ c4 c6, d = δi c4 c6) (js_if (p := q) (δ1 := δe c6) (jt_w (jw_and (p := !ev.contains x) (q := fam.all (fun o => meetM ev o)) ?_ fun _ => jw_and1 ?_)) (fun hq => ?_) fun hq => jb_nil (last (if_neg (by rw [show (!ev.contains x && fam.all (fun o => meetM ev o)) = false from hq]; exact Bool.false_ne_true)))) fun δ' h => jb_nil h
          · refine JT.eq (jt_notin (ds := ev.map (eN nm)) (.inr rfl) (je_ixT (d := eN nm x) (je_v 3) je_int (by rw [hx]; exact atI_nat (j := 0) rfl)) (je_v 4) rfl (flat_N ev)) ?_
            rw [any_N H.toNam]
          · exact jt_val (je_allC (xs := fam) (b := fun o => meetM ev o) m2 rfl (jn_m 5 fam (eE nm) (fun o => .bool (meetM ev o)) (ji_L (je_v 1)) (blkOk_by (N := ["every", "family", "left", "common", "event", "own", "found"]) (sc := defScope s_fam) (by decide +kernel)) (fun o ho _ _ _ _ _ => je_call C2 hr (by omega) (ja_cons (je_v 4) (ja_cons (je_v 5) ja_nil)) ⟨_, _, rfl, rfl⟩) rfl c_fam.nd))
          · have hg : gE ev = famM es n (fam ++ [ev]) := if_pos hq
            refine jb_set (A := aD (optL nm (famM es n (fam ++ [ev])))) 6 c_fam.nd (je_call C0 hr (by omega) (ja_cons (je_v 0) (ja_cons (je_lst (ds := (fam ++ [ev]).map (eE nm)) (by rw [List.map_append, List.map_append]; exact ja_star (.inl rfl) (je_v 1) (ja_cons (je_v 4) ja_nil)) (by rw [List.length_map, List.length_append]; exact small (by show fam.length + 1 ≤ 1000; omega))) (ja_cons (JE.eq (je_sub (je_v 2) je_int) (d' := .int (n : Int)) (by simp)) ja_nil))) ⟨es, fam ++ [ev], by simp, by rw [List.length_append]; show fam.length + 1 + n ≤ 100; omega, rfl, rfl⟩) ?_
            cases hf : famM es n (fam ++ [ev]) with
            | none =>
              refine jb_ifR (p := false) (JT.eq (jt_isnot (je_v 6)) (by rfl)) (fun z => by cases z) fun _ => jb_nil (last (c6' := some (.val (aD (optL nm none)))) (hg.trans hf))
            | some r =>
              refine jb_ifR (p := true) (JT.eq (jt_isnot (je_v 6)) (by rfl)) (fun _ => ?_) fun z => by cases z
              rw [findSome_take hxe hi (hg.trans hf)]
              exact jb_ret (je_v 6) (fun _ _ h => h)
      · rw [List.length_map, List.take_length] at hi
        exact hi
      · subst e
        rw [List.findSome?_eq_none_iff.mpr hi]
        exact jb_ret je_non Ret.same
end
end J
/-! meeting_family, has_bits. -/
namespace J
open PySem PySem.Spec L2
/-- the first family found -/
def mfamM (es : List (List Nat)) (n : Nat) : Option (List (List Nat)) := es.findSome? fun e => famM es n [e]
theorem famM_sub {es : List (List Nat)} : ∀ {n : Nat} {fam r : List (List Nat)}, famM es n fam = some r → (∀ e ∈ fam, e ∈ es) → (∀ e ∈ r, e ∈ es) ∧ r.length ≤ fam.length + n
  | n, fam, r, h, hs => by
    cases hc : commonM fam with
    | nil =>
      rw [famM_e (by rw [hc]; rfl)] at h
      cases h
      exact ⟨hs, by omega⟩
    | cons x xs =>
      cases n with
      | zero =>
        rw [famM_0 (by rw [hc]; rfl)] at h
        cases h
      | succ n =>
        rw [famM_s hc] at h
        obtain ⟨e, he, h2⟩ := List.exists_of_findSome?_eq_some h
        split at h2
        · obtain ⟨h3, h4⟩ := famM_sub h2 fun o ho => by
            rcases List.mem_append.mp ho with ho | ho
            · exact hs o ho
            · rw [List.mem_singleton.mp ho]; exact he
          rw [List.length_append] at h4
          exact ⟨h3, by simp at h4; omega⟩
        · cases h2
theorem srtD_pw (ds : List PyData) : (srtD ds).Pairwise LeP := by
  have h := List.pairwise_mergeSort (le := fun a b => !ltD b a) (fun a b c h1 h2 => by
    simp only [Bool.not_eq_true'] at h1 h2 ⊢
    exact ltD_tr a b c h1 h2) (fun a b => by
    cases q : ltD b a with
    | false => rfl
    | true => rw [ltD_asym b a q]; rfl) ds
  exact h.imp fun {a b} q => by simpa using q
section
variable {P : Program} {w : World} {K : PySem.W.Frag} {mg : Str → Option Value} {base : Heap} {nm : Nat → Str} {f : Addr} {fd : FuncData} {k : Nat}
def optT (nm : Nat → Str) : Option (List (List Nat)) → PyData
  | some l => .tuple (srtD (l.map (eE nm)))
  | none => .none
abbrev s_mfam : Stmt := topS 26
theorem c_mfam : FnScope ["chart", "long", "every", "event", "found"] ["chart", "long"] (defScope s_mfam) := ⟨rfl, rfl, rfl, by decide +kernel, rfl, by decide +kernel, by decide +kernel⟩
def R_mfam (nm : Nat → Str) : Rl := fun As Z => ∃ (c : Ch) (k : Nat), c.Ok ∧ c.ti.length ≤ 20 ∧ k ≤ 2 ∧ As = [aD (dCh nm c), aI (k : Int)] ∧ Z = aD (optT nm (mfamM (c.evs k) (k + 1)))
theorem f_mfam (H : NamX nm) (F : Fun K "meeting_family" "meeting_family" s_mfam f fd) (C1 : Cal P w K mg base k "events" (R_events nm)) (C2 : ∀ n, n ≤ 3 → Cal P w K mg base k "family_from_bits" (R_fam nm n)) (m1 : mg "tuple" = none) (m2 : mg "sorted" = none) : FnOk P w K mg base CX0 (k + 1) f fd ["chart", "long"] (spJ (R_mfam nm)) := by
  refine fn_j F c_mfam (fun As Z ⟨i, _, _, _, _, e, _⟩ => by rw [e]; rfl) fun cdv A0 outer s H0 E As Z hr ⟨c, n, ok, tl, hn, e1, e2⟩ => ?_
  subst e1 e2
  have hu := hr.un
  refine jb_set 2 c_mfam.nd (je_call C1 hr (Nat.le_refl _) (ja_cons (je_v 0) (ja_cons (je_v 1) ja_nil)) ⟨c, n, ok, tl, hn, rfl, rfl⟩) ?_
  have hes := fun e he => (evs_ev ok (k := n) e he).1
  generalize hE : c.evs n = es at hes ⊢
  let gE : List Nat → Option (List (List Nat)) := fun e => famM es (n + 1) [e]
  show JB _ _ _ (Ret (aD (optT nm (es.findSome? gE))))
  let δi : Option Cell → Option Cell → DSt := fun c4 c6 => [some (.val (aD (dCh nm c))), some (.val (aI (n : Int))), some (.val (aD (eEs nm es))), c4, c6]
  refine jb_cons (M := fun δ' => (∀ e ∈ es, gE e = none) ∧ ∃ c4 c6, δ' = δi c4 c6) (js_for (I := fun i δ' => (∀ e ∈ es.take i, gE e = none) ∧ ∃ c4 c6, δ' = δi c4 c6) (ji_T (xs := es) (enc := eE nm) (je_v 2)) PassesOwn.never rfl ⟨(fun e he => by simp at he), none, none, rfl⟩ (fun i A δ' hA ⟨hi, c4, c6, e⟩ => ?_) (fun δ' ⟨hi, c4, c6, e⟩ => ⟨?_, c4, c6, e⟩)) fun δ' ⟨hi, c4, c6, e⟩ => ?_
  · subst e
    rw [List.getElem?_map] at hA
    cases hxe : es[i]? with
    | none => rw [hxe] at hA; cases hA
    | some ev =>
      rw [hxe] at hA
      cases hA
      refine ⟨_, _, jg_name 3 c_mfam.nd, ?_⟩
      have hme := List.mem_of_getElem? hxe
      have last : ∀ {c6' : Option Cell}, gE ev = none → ((∀ e ∈ es.take (i + 1), gE e = none) ∧ ∃ c4 c6, δi (some (.val (aD (eE nm ev)))) c6' = δi c4 c6) := fun hn => ⟨fun e he => by
        rw [List.take_add_one, hxe] at he
        rcases List.mem_append.mp he with he | he
        · exact hi e he
        · have e2 : e = ev := by simpa using he
          rw [e2]
          exact hn, _, _, rfl⟩
      refine jb_set (A := aD (optL nm (famM es (n + 1) [ev]))) 4 c_mfam.nd (je_call (C2 (n + 1) (by omega)) hr (Nat.le_refl _) (ja_cons (je_v 2) (ja_cons (je_lst (ds := [eE nm ev]) (ja_cons (je_v 3) ja_nil)) (ja_cons (JE.eq (je_add (je_v 1) je_int) (d' := .int ((n + 1 : Nat) : Int)) (by simp)) ja_nil))) ⟨es, [ev], by simp, by show 1 + (n + 1) ≤ 100; omega, rfl, rfl⟩) ?_
      cases hf : famM es (n + 1) [ev] with
      | none => exact jb_ifR (p := false) (JT.eq (jt_isnot (je_v 4)) (by rfl)) (fun z => by cases z) fun _ => jb_nil (last (c6' := some (.val (aD (optL nm none)))) hf)
      | some r =>
        refine jb_ifR (p := true) (JT.eq (jt_isnot (je_v 4)) (by rfl)) (fun _ => ?_) fun z => by cases z
        rw [findSome_take hxe hi hf]
        obtain ⟨hr1, hr2⟩ := famM_sub hf (fun e he => by rw [List.mem_singleton.mp he]; exact hme)
        exact jb_ret (je_tupleL m1 (je_sorted (ds := r.map (eE nm)) (srtD (r.map (eE nm))) (.inl rfl) (srt_E H r fun e he => (hes e (hr1 e he)).ne) (srtD_perm _) (srtD_pw _) m2 rfl hr (by show (A0.deeper _).units + 68 < cLine; omega) (je_v 4))) (fun _ _ h => h)
  · rw [List.length_map, List.take_length] at hi
    exact hi
  · subst e
    rw [List.findSome?_eq_none_iff.mpr hi]
    exact jb_ret je_non Ret.same
/-! ### has_bits -/
abbrev s_hasb : Stmt := topS 27
theorem c_hasb : FnScope ["chart", "long"] ["chart", "long"] (defScope s_hasb) := ⟨rfl, rfl, rfl, by decide +kernel, rfl, by decide +kernel, by decide +kernel⟩
def R_hasb (nm : Nat → Str) : Rl := fun As Z => ∃ (c : Ch) (k : Nat), c.Ok ∧ c.ti.length ≤ 20 ∧ k ≤ 2 ∧ As = [aD (dCh nm c), aI (k : Int)] ∧ Z = aB (mfamM (c.evs k) (k + 1)).isNone
theorem f_hasb (F : Fun K "has_bits" "has_bits" s_hasb f fd) (C1 : Cal P w K mg base k "meeting_family" (R_mfam nm)) : FnOk P w K mg base CX0 (k + 1) f fd ["chart", "long"] (spJ (R_hasb nm)) := by
  refine fn_j F c_hasb (fun As Z ⟨i, _, _, _, _, e, _⟩ => by rw [e]; rfl) fun cdv A0 outer s H0 E As Z hr ⟨c, n, ok, tl, hn, e1, e2⟩ => ?_
  subst e1 e2
  refine jb_ret (JE.eq (je_is (je_call C1 hr (Nat.le_refl _) (ja_cons (je_v 0) (ja_cons (je_v 1) ja_nil)) ⟨c, n, ok, tl, hn, rfl, rfl⟩)) ?_) Ret.same
  cases mfamM (c.evs n) (n + 1) <;> rfl
end
end J
/-! xs[::-1]; a, b = a list. -/
namespace J
open PySem PySem.Spec L2
section
variable {X : Cx} {δ δ1 : DSt} {e : Expr} {es : List Expr} {pos : Pos} {ds : List PyData}
theorem DdAll.rev {B : Hp} : ∀ {xs : List V} {ds : List PyData}, DdAll B xs ds → DdAll B xs.reverse ds.reverse
  | _, _, .nil => .nil
  | _, _, .cons a t => by
    rw [List.reverse_cons, List.reverse_cons]
    exact (DdAll.rev t).append (.cons a .nil)
theorem je_revL {k : Nat} {p1 p2 p3 : Pos} (h : JE X e δ δ1 (aD (.list ds))) : JE X (.Subscript e (.Slice none none (some (.UnaryOp .USub (.Constant (.int 1) k p1) p2)) p3) pos) δ δ1 (aD (.list ds.reverse)) :=
  PE.imp (pe_revL h) fun σ H Q ⟨F, B, E, q⟩ => ⟨F, B, E, fun v B1 H1 E1 s1 a1 => by
    obtain ⟨a, xs, rfl, e2, hl, e3⟩ := Dd.lst_eq a1
    refine ⟨a, xs, rfl, SqL.of (E1.bh _ _ e2), fun p hp => ?_⟩
    have sB := same_upd (o := .lst xs.reverse) (E1.bh.free hp)
    exact q _ _ _ (E1.laid hp) (s1.trans sB) (.lst upd_same (by rw [List.length_reverse]; exact hl) (DdAll.mono sB _ _ e3.rev))⟩
theorem jg_lst {k : Nat} {ws : List Nat} (hc : X.calm = true) (h : JGs X es ds ws δ δ1) (hn : (assignEach es X.env).length = ds.length := by rfl) (hst : (assignEach es X.env).findIdx? (·.1) = none := by rfl) : JG X (.Tuple es k pos) (aD (.list ds)) ws δ δ1 :=
  PG.imp (pg_lst (n := ds.length) hc h hn hst) fun v σ H Q ⟨F, B, E, a, q⟩ => by
    obtain ⟨p, xs, e1, e2, _, e3⟩ := Dd.lst_eq a
    exact ⟨p, xs, e1, SqL.of (E.bh _ _ e2), e3.len, F, B, E, e3, q⟩
end
end J
/-! parts_two. -/
namespace J
open PySem PySem.Spec L2
def partsM (cut : List Nat) (p : List Nat × List Nat) : Bool := (p.1.all (fun n => cut.contains n) && !p.2.any fun n => cut.contains n) || (p.2.all (fun n => cut.contains n) && !p.1.any fun n => cut.contains n)
/-- which of some are in a cut -/
def sideD (cut some : List Nat) : PyData := .list (some.map fun n => .bool (cut.contains n))
section
variable {X : Cx} {iter elt e : Expr} {scope : Scope} {pos p tp tq tr : Pos} {δ δ1 : DSt} {α : Type} {x y : Str} {kk : Nat} {own : List (Str × Nat)} {tg : Expr}
theorem bgL2 {i j : Nat} {A C : PyData} (hc : X.calm = true) (hN : X.N.Nodup) (hx : X.N[i]? = some x) (hy : X.N[j]? = some y) (hLx : Loc (relS scope X.env.scope) x) (hLy : Loc (relS scope X.env.scope) y)
    (hfx : (scope.names.lookup x == some .cell) = true ∨ (relS scope X.env.scope).names.lookup x = some .local) (hfy : (scope.names.lookup y == some .cell) = true ∨ (relS scope X.env.scope).names.lookup y = some .local) :
    Bk X scope fun Y => JG Y (.Tuple [.Name x tp, .Name y tq] kk tr) (aD (.list [A, C])) [i, j] δ ((δ.set i (some (.val (aD A)))).set j (some (.val (aD C)))) := fun s H Cc cl fp =>
  jg_lst (ws := [i] ++ ([j] ++ [])) (ds := [A, C]) (by first | rfl | exact hc) (jgs_cons (jg_of (A := aD A) (gn_mk (tp := tp) hN hx hLx hfx s H Cc cl fp)) (jgs_cons (jg_of (A := aD C) (gn_mk (tp := tq) hN hy hLy hfy s H Cc cl fp)) jgs_nil))
/-- [elt for tg in iter] -/
theorem jn_lcm (xs : List α) (enc : α → PyData) (st : α → DSt) (f : α → PyData) {ws : List Nat} (hi : JI X tg iter δ δ1 (xs.map fun x => aD (enc x))) (ok : BlkOk X.N X.env.scope scope own) (hG : ∀ x ∈ xs, Bk X scope fun Y => JG Y tg (aD (enc x)) ws (dwipe δ1 (own.map (·.2))) (st x))
    (hE : ∀ x ∈ xs, Bk X scope fun Y => JE Y elt (st x) (st x) (aD (f x))) (hc : X.calm = true) (hN : X.N.Nodup) (hws : ∀ j ∈ ws, j ∈ own.map (·.2) := by decide) (hw : ∀ x, dwipe (st x) (own.map (·.2)) = dwipe δ1 (own.map (·.2)) := by intro _; rfl)
    (hs : ∀ x, foldedSetIterable iter X.env x = pure x := by intro _; rfl) : JN X (.ListComp elt [⟨tg, iter, [], 0⟩] scope pos) δ (dwipe δ1 (own.map (·.2))) (isL (xs.map f)) := by
  have h := jn_lc (elt := elt) (ifs := []) (pos := pos) xs enc st (fun _ => true) f hi ok hG (fun a ha s H C cl fp => jts_nil) (fun a ha _ => hE a ha) hc hN hws hw hs
  rw [List.filter_eq_self.mpr fun _ _ => rfl] at h
  exact h
theorem je_allS {cut some : List Nat} (hm : X.mg "all" = none) (hc : X.calm = true) (h : JE X e δ δ1 (aD (sideD cut some))) (hg : Gl X "all" := by rfl) (he : starEach [e] X.env = (false, eval e X.env) :: starEach [] X.env := by rfl) : JE X (.Call (.Name "all" p) [e] [] pos) δ δ1 (aB (some.all fun n => cut.contains n)) :=
  JE.eq (je_all (bs := some.map fun n => cut.contains n) hm hc (JE.eq h (by unfold sideD; rw [List.map_map]; rfl)) hg he) (by rw [List.all_map]; rfl)
theorem je_anyS {cut some : List Nat} (hm : X.mg "any" = none) (hc : X.calm = true) (h : JE X e δ δ1 (aD (sideD cut some))) (hg : Gl X "any" := by rfl) (he : starEach [e] X.env = (false, eval e X.env) :: starEach [] X.env := by rfl) : JE X (.Call (.Name "any" p) [e] [] pos) δ δ1 (aB (some.any fun n => cut.contains n)) :=
  JE.eq (je_any (bs := some.map fun n => cut.contains n) hm hc (JE.eq h (by unfold sideD; rw [List.map_map]; rfl)) hg he) (by rw [List.any_map]; rfl)
end
section
variable {P : Program} {w : World} {K : PySem.W.Frag} {mg : Str → Option Value} {base : Heap} {nm : Nat → Str} {f : Addr} {fd : FuncData} {k : Nat}
abbrev s_parts2 : Stmt := topS 28
theorem c_parts2 : FnScope ["cut", "pair", "sides", "name", "some", "one", "other"] ["cut", "pair"] (defScope s_parts2) := ⟨rfl, rfl, rfl, by decide +kernel, rfl, by decide +kernel, by decide +kernel⟩
def R_parts2 (nm : Nat → Str) : Rl := fun As Z => ∃ (cut : List Nat) (p : List Nat × List Nat), As = [aD (eE nm cut), aD (dPr nm p)] ∧ Z = aB (partsM cut p)
theorem f_parts2 (H : NamX nm) (F : Fun K "parts_two" "parts_two" s_parts2 f fd) (m1 : mg "any" = none) (m2 : mg "all" = none) : FnOk P w K mg base CX0 (k + 1) f fd ["cut", "pair"] (spJ (R_parts2 nm)) := by
  refine fn_j F c_parts2 (fun As Z ⟨i, _, e, _⟩ => by rw [e]; rfl) fun cdv A0 outer s H0 E As Z hr ⟨cut, p, e1, e2⟩ => ?_
  subst e1 e2
  refine jb_lc (own := [("some", 4)]) (ws := [4]) 2 [p.1, p.2] (eE nm) (fun e => (dwipe (d0 ["cut", "pair", "sides", "name", "some", "one", "other"] [aD (eE nm cut), aD (dPr nm p)]) [4]).set 4 (some (.val (aD (eE nm e))))) (fun _ => true) (fun e => sideD cut e) (ji_T (xs := [p.1, p.2]) (enc := eE nm) (je_v 1)) (blkOk_by (N := ["cut", "pair", "sides", "name", "some", "one", "other"]) (sc := defScope s_parts2) (by decide +kernel)) (fun e he s0 H1 Cc cl fp => jg_of (gn_mk c_parts2.nd rfl (.inl rfl) (.inr rfl) s0 H1 Cc cl fp)) (fun e he _ _ _ _ _ => jts_nil) (fun e he _ _ _ _ _ _ => ?_) (show 2 < 7 by decide) ?_ rfl c_parts2.nd
  · exact JN.dat (jn_m 3 e (eN nm) (fun n => .bool (cut.contains n)) (ji_T (je_v 4)) (blkOk_by (N := ["cut", "pair", "sides", "name", "some", "one", "other"]) (sc := relS _ (defScope s_parts2)) (by decide +kernel))
      (fun n hn _ _ _ _ _ => JE.eq (je_in (ds := cut.map (eN nm)) (.inr rfl) (je_v 3) (je_v 0) rfl (flat_N cut)) (by rw [any_N H.toNam])) rfl c_parts2.nd)
  · let δ1 : DSt := [some (.val (aD (eE nm cut))), some (.val (aD (dPr nm p))), some (.val (aD (.list [sideD cut p.1, sideD cut p.2]))), none, none, none, none]
    show JB _ _ δ1 _
    refine jb_ret (JE.eq (je_anyC (xs := [(p.1, p.2), (p.2, p.1)]) (b := fun q : List Nat × List Nat => q.1.all (fun n => cut.contains n) && !q.2.any fun n => cut.contains n) m1 rfl
      (jn_lcm (own := [("one", 5), ("other", 6)]) (ws := [5, 6]) [(p.1, p.2), (p.2, p.1)] (fun q => .list [sideD cut q.1, sideD cut q.2]) (fun q => ((dwipe δ1 [5, 6]).set 5 (some (.val (aD (sideD cut q.1))))).set 6 (some (.val (aD (sideD cut q.2))))) (fun q : List Nat × List Nat => .bool (q.1.all (fun n => cut.contains n) && !q.2.any fun n => cut.contains n))
        (ji_T (xs := [(p.1, p.2), (p.2, p.1)]) (enc := fun q => .list [sideD cut q.1, sideD cut q.2]) (je_tup (ds := [.list [sideD cut p.1, sideD cut p.2], .list [sideD cut p.2, sideD cut p.1]]) (ja_cons (je_v 2) (ja_cons (je_revL (ds := [sideD cut p.1, sideD cut p.2]) (je_v 2)) ja_nil)))) (blkOk_by (N := ["cut", "pair", "sides", "name", "some", "one", "other"]) (sc := defScope s_parts2) (by decide +kernel))
        (fun q hq => bgL2 rfl c_parts2.nd rfl rfl (.inl rfl) (.inl rfl) (.inr rfl) (.inr rfl)) (fun q hq _ _ _ _ _ => je_and (je_allS m2 rfl (je_v 5)) fun _ => je_one (je_not (je_anyS m1 rfl (je_v 6)))) rfl c_parts2.nd)) ?_) Ret.same
    show PyData.bool _ = PyData.bool _
    congr 1
    show (_ || (_ || false)) = _
    rw [Bool.or_false]
    rfl
end
end J
/-! is_cut, is_cut_list. -/
namespace J
open PySem PySem.Spec L2
theorem zip_tail_all {α : Type} {r : α → α → Bool} : ∀ {l : List α}, l.Pairwise (fun a b => r a b = true) → ((l.zip l.tail).all fun p => r p.1 p.2) = true
  | [], _ => rfl
  | [_], _ => rfl
  | a :: b :: l, h => by
    obtain ⟨h1, h2⟩ := List.pairwise_cons.mp h
    have ih := zip_tail_all h2
    show (r a b && (((b :: l).zip (b :: l).tail).all fun p => r p.1 p.2)) = true
    rw [h1 b List.mem_cons_self, ih]
    rfl
theorem rises_map {α : Type} {enc : α → PyData} {lt : α → α → Bool} (ord : ∀ a b, ltD (enc a) (enc b) = lt a b) {l : List α} (h : l.Pairwise (fun a b => lt a b = true)) : risesD (l.map enc) = true := by
  unfold risesD
  exact zip_tail_all (r := ltD) (List.pairwise_map.mpr (h.imp fun {a b} q => by rw [ord]; exact q))
/-- a cut of m states -/
structure CutOk (m : Nat) (e : List Nat) : Prop where
  asc : Asc e
  zero : 0 ∈ e
  lt : ∀ x ∈ e, x < m
/-- a set of cuts -/
structure CutsOk (m : Nat) (cs : List (List Nat)) : Prop where
  ok : ∀ e ∈ cs, CutOk m e
  asc : cs.Pairwise fun a b => ltL a b = true
section
variable {P : Program} {w : World} {K : PySem.W.Frag} {mg : Str → Option Value} {base : Heap} {nm : Nat → Str} {f : Addr} {fd : FuncData} {k : Nat}
theorem isnames_N (H : NamX nm) {e : List Nat} (ha : Asc e) (hl : ∀ x ∈ e, x < 20) : R_isnames [aD (eE nm e)] (aB true) := by
  refine ⟨e.map nm, by rw [List.map_map]; rfl, ?_, fun x hx => ?_⟩
  · have h := rises_map (enc := eN nm) (ltD_N H) ha
    have e1 : (e.map nm).map PyData.str = e.map (eN nm) := by rw [List.map_map]; rfl
    rw [e1, h]
  · obtain ⟨i, hi, rfl⟩ := List.mem_map.mp hx
    exact H.name i (hl i hi)
abbrev s_iscut : Stmt := topS 29
theorem c_iscut : FnScope ["known", "thing", "name"] ["known", "thing"] (defScope s_iscut) := ⟨rfl, rfl, rfl, by decide +kernel, rfl, by decide +kernel, by decide +kernel⟩
def R_iscut (nm : Nat → Str) : Rl := fun As Z => ∃ (m : Nat) (e : List Nat), m ≤ 20 ∧ CutOk m e ∧ As = [aD (eE nm (List.range m)), aD (eE nm e)] ∧ Z = aB true
theorem f_iscut (H : NamX nm) (F : Fun K "is_cut" "is_cut" s_iscut f fd) (C1 : Cal P w K mg base k "is_name_set" R_isnames) (m1 : mg "all" = none) : FnOk P w K mg base CX0 (k + 1) f fd ["known", "thing"] (spJ (R_iscut nm)) := by
  refine fn_j F c_iscut (fun As Z ⟨i, _, _, _, e, _⟩ => by rw [e]; rfl) fun cdv A0 outer s H0 E As Z hr ⟨m, e, hm, ok, e1, e2⟩ => ?_
  subst e1 e2
  have m0 : 0 < m := ok.lt 0 ok.zero
  refine jb_ret (je_and (p := true) (q := true) (je_call C1 hr (Nat.le_refl _) (ja_cons (je_v 1) ja_nil) (isnames_N H ok.asc fun x hx => by have := ok.lt x hx; omega)) fun _ => je_and (p := true) (q := true) (JE.eq (je_in (ds := e.map (eN nm)) (.inr rfl) (je_ixT (d := eN nm 0) (je_v 0) je_int (atI_nat (j := 0) ?_)) (je_v 1) rfl (flat_N e)) ?_) fun _ => je_one (JE.eq (je_allC (xs := e) (b := fun x => (List.range m).contains x) m1 rfl (jn_m 2 e (eN nm) (fun x => .bool ((List.range m).contains x)) (ji_T (je_v 1)) (blkOk_by (N := ["known", "thing", "name"]) (sc := defScope s_iscut) (by decide +kernel)) (fun x hx _ _ _ _ _ => JE.eq (je_in (ds := (List.range m).map (eN nm)) (.inr rfl) (je_v 2) (je_v 0) rfl (flat_N _)) (by rw [any_N H.toNam])) rfl c_iscut.nd)) ?_)) Ret.same
  · rw [List.getElem?_map, List.getElem?_range m0]
    rfl
  · rw [any_N H.toNam, List.contains_iff_mem.mpr ok.zero]
  · congr 1
    rw [List.all_eq_true]
    exact fun x hx => List.contains_iff_mem.mpr (List.mem_range.mpr (ok.lt x hx))
/-! ### is_cut_list -/
def cutlM (es : List (List Nat)) (cs : List (List Nat)) : Bool := (apartM es).all fun p => cs.any fun e => partsM e p
abbrev s_iscutl : Stmt := topS 30
theorem c_iscutl : FnScope ["chart", "long", "thing", "known", "cut", "pair"] ["chart", "long", "thing"] (defScope s_iscutl) := ⟨rfl, rfl, rfl, by decide +kernel, rfl, by decide +kernel, by decide +kernel⟩
def R_iscutl (nm : Nat → Str) : Rl := fun As Z => ∃ (c : Ch) (k : Nat) (cs : List (List Nat)), c.Ok ∧ c.ti.length ≤ 20 ∧ k ≤ 2 ∧ CutsOk c.m cs ∧ As = [aD (dCh nm c), aI (k : Int), aD (eEs nm cs)] ∧ Z = aB (cutlM (c.evs k) cs)
theorem rises_E (H : NamX nm) {cs : List (List Nat)} (h : cs.Pairwise fun a b => ltL a b = true) : R_rises [aD (eEs nm cs)] (aB true) := by
  refine ⟨cs.map (eE nm), _, .inl rfl, rfl, ?_, fun e he => ?_, fun e he g hg => ?_⟩
  · rw [rises_map (enc := eE nm) (lt := ltL) (fun a b => by rw [ltD]; exact ltD_E H a b) h]
  · obtain ⟨x, _, rfl⟩ := List.mem_map.mp he
    exact shp_E H x
  · obtain ⟨x, _, rfl⟩ := List.mem_map.mp he
    obtain ⟨y, _, rfl⟩ := List.mem_map.mp hg
    exact cmp_E x y
theorem f_iscutl (H : NamX nm) (F : Fun K "is_cut_list" "is_cut_list" s_iscutl f fd) (C1 : Cal P w K mg base k "names" (R_names nm)) (C2 : Cal P w K mg base k "is_cut" (R_iscut nm)) (C3 : Cal P w K mg base k "rises" R_rises) (C4 : Cal P w K mg base k "parts_two" (R_parts2 nm)) (C5 : Cal P w K mg base k "to_part" (R_topart nm))
    (m1 : mg "isinstance" = none) (m2 : mg "tuple" = none) (m3 : mg "all" = none) (m4 : mg "any" = none) : FnOk P w K mg base CX0 (k + 1) f fd ["chart", "long", "thing"] (spJ (R_iscutl nm)) := by
  refine fn_j F c_iscutl (fun As Z ⟨i, _, _, _, _, _, _, e, _⟩ => by rw [e]; rfl) fun cdv A0 outer s H0 E As Z hr ⟨c, n, cs, ok, tl, hn, ck, e1, e2⟩ => ?_
  subst e1 e2
  have m5 := ok.m5
  refine jb_set 3 c_iscutl.nd (je_call C1 hr (Nat.le_refl _) (ja_cons (je_v 0) ja_nil) ⟨c, rfl, rfl⟩) ?_
  refine jb_ifR (p := false) (jt_w (jw_or (p := false) (q := false) (jt_not (p := true) (jt_val (je_isi m1 (je_v 2) (je_ty m2 PyProof.Rows.boot_tuple) rfl))) fun _ => jw_or (p := false) (q := false) (jt_not (p := true) (JT.eq (jt_val (je_allC (xs := cs) (b := fun _ => true) m3 rfl (jn_m 4 cs (eE nm) (fun _ => .bool true) (ji_T (je_v 2)) (blkOk_by (N := ["chart", "long", "thing", "known", "cut", "pair"]) (sc := defScope s_iscutl) (by decide +kernel)) (fun e he _ _ _ _ _ => je_call C2 hr (Nat.le_refl _) (ja_cons (je_v 3) (ja_cons (je_v 4) ja_nil)) ⟨c.m, e, by omega, ck.ok e he, rfl, rfl⟩) rfl c_iscutl.nd))) ?_)) fun _ => jw_or1 (jt_not (p := true) (jt_val (je_call C3 hr (Nat.le_refl _) (ja_cons (je_v 2) ja_nil) (rises_E H ck.asc)))))) (fun z => by cases z) fun _ => ?_
  · rw [List.all_eq_true]
    exact fun _ _ => rfl
  · refine jb_ret (je_allC (xs := apartM (c.evs n)) (b := fun p => cs.any fun e => partsM e p) m3 rfl (jn_m 5 (apartM (c.evs n)) (dPr nm) (fun p => .bool (cs.any fun e => partsM e p)) (ji_L (je_call C5 hr (Nat.le_refl _) (ja_cons (je_v 0) (ja_cons (je_v 1) ja_nil)) ⟨c, n, ok, tl, hn, rfl, rfl⟩)) (blkOk_by (N := ["chart", "long", "thing", "known", "cut", "pair"]) (sc := defScope s_iscutl) (by decide +kernel))
      (fun p hp _ _ _ _ _ => je_anyC (xs := cs) (b := fun e => partsM e p) m4 rfl (jn_m 4 cs (eE nm) (fun e => .bool (partsM e p)) (ji_T (je_v 2)) (blkOk_by (N := ["chart", "long", "thing", "known", "cut", "pair"]) (sc := relS _ (defScope s_iscutl)) (by decide +kernel)) (fun e he _ _ _ _ _ => je_call C4 hr (Nat.le_refl _) (ja_cons (je_v 4) (ja_cons (je_v 5) ja_nil)) ⟨e, p, rfl, rfl⟩) rfl c_iscutl.nd)) rfl c_iscutl.nd)) Ret.same
end
end J
/-! xs + ys. -/
namespace J
open PySem PySem.Spec L2
section
variable {X : Cx} {δ δ1 δ2 : DSt} {a b e : Expr} {pos p : Pos} {ds es : List PyData}
theorem je_addL (ha : JE X a δ δ1 (aD (.list ds))) (hb : JE X b δ1 δ2 (aD (.list es))) (hl : ds.length + es.length ≤ sizeLine) : JE X (.BinOp a .Add b pos) δ δ2 (aD (.list (ds ++ es))) :=
  je_op op_cat (fun B H u v Q s h1 h2 q => by
    obtain ⟨a, xs, rfl, e2, l1, e3⟩ := Dd.lst_eq h1
    obtain ⟨b, ys, rfl, f2, l2, f3⟩ := Dd.lst_eq h2
    refine ⟨a, b, xs, ys, rfl, rfl, s _ _ e2, s _ _ f2, by rw [e3.len, f3.len]; exact hl, fun p hp => ?_⟩
    have sB := same_upd (o := .lst (xs ++ ys)) (s.free hp)
    exact q _ _ _ (Gro.one hp) (.lst upd_same (by rw [List.length_append]; exact hl) (DdAll.mono sB _ _ (e3.append f3)))) ha hb
theorem je_addT (ha : JE X a δ δ1 (aD (.tuple ds))) (hb : JE X b δ1 δ2 (aD (.tuple es))) (hl : ds.length + es.length ≤ sizeLine) : JE X (.BinOp a .Add b pos) δ δ2 (aD (.tuple (ds ++ es))) :=
  je_op op_catA (fun B H u v Q s h1 h2 q => by
    obtain ⟨a, xs, rfl, e2, l1, e3⟩ := Dd.tup_eq h1
    obtain ⟨b, ys, rfl, f2, l2, f3⟩ := Dd.tup_eq h2
    refine ⟨a, b, xs, ys, rfl, rfl, SqT.of (s _ _ e2), SqT.of (s _ _ f2), by rw [e3.len, f3.len]; exact hl, fun z => ?_, fun z z' => ?_, fun z z' p hp => ?_⟩
    · subst z
      cases e3
      exact q _ _ _ (.refl B H) h2
    · subst z'
      cases f3
      exact q _ _ _ (.refl B H) (by rw [List.append_nil]; exact h1)
    · have sB := same_upd (o := .tup (xs ++ ys)) (s.free hp)
      exact q _ _ _ (Gro.one hp) (.tup upd_same (by rw [List.length_append]; exact hl) (DdAll.mono sB _ _ (e3.append f3)))) ha hb
end
end J
/-! bits_by, all_cuts. -/
namespace J
open PySem PySem.Spec L2
/-- the chart with words by cuts -/
def Ch.by (c : Ch) (cs : List (List Nat)) : Ch := { m := c.m, sz := cs.map fun _ => 2, wd := fun i => cs.map fun e => if e.contains i then 0 else 1, ti := c.ti }
theorem Ch.by_evs (c : Ch) (cs : List (List Nat)) (k : Nat) : (c.by cs).evs k = c.evs k := by
  have hr : ∀ k, (c.by cs).rows k = c.rows k := fun k => by
    induction k with
    | zero => rfl
    | succ k ih =>
      show ((c.by cs).rows k).flatMap _ = (c.rows k).flatMap _
      rw [ih]
      rfl
  have hw : ∀ k, (c.by cs).walks k = c.walks k := fun k => by
    induction k with
    | zero => rfl
    | succ k ih =>
      show (c.by cs).walks k ++ (c.by cs).rows (k + 1) = c.walks k ++ c.rows (k + 1)
      rw [ih, hr]
  unfold Ch.evs
  rw [hw]
theorem Ch.by_ok {c : Ch} (ok : c.Ok) {cs : List (List Nat)} (hl : cs.length ≤ 20) : (c.by cs).Ok := ⟨ok.m1, ok.m5, by show (cs.map _).length ≤ 20; rw [List.length_map]; exact hl, fun i => by show (cs.map _).length = (cs.map _).length; rw [List.length_map, List.length_map], ok.t, ok.tn⟩
section
variable {P : Program} {w : World} {K : PySem.W.Frag} {mg : Str → Option Value} {base : Heap} {nm : Nat → Str} {f : Addr} {fd : FuncData} {k : Nat}
abbrev s_bits : Stmt := topS 31
abbrev N_bits : List Str := ["chart", "cuts", "sizes", "states", "moves", "found", "cut", "name", "word"]
theorem c_bits : FnScope N_bits ["chart", "cuts"] (defScope s_bits) := ⟨rfl, rfl, rfl, by decide +kernel, rfl, by decide +kernel, by decide +kernel⟩
def R_bits (nm : Nat → Str) : Rl := fun As Z => ∃ (c : Ch) (cs : List (List Nat)), c.Ok ∧ cs.length ≤ 20 ∧ As = [aD (dCh nm c), aD (eEs nm cs)] ∧ Z = aD (dCh nm (c.by cs))
theorem f_bits {t : Tok} (H : NamX nm) (F : Fun K "bits_by" "bits_by" s_bits f fd) (C1 : Cal P w K mg base k "tupled" (R_tupled 4)) (m1 : mg "tuple" = none) (m2 : mg "int" = none) (m3 : mg "TWO" = some (.int 2 t)) : FnOk P w K mg base CX0 (k + 1) f fd ["chart", "cuts"] (spJ (R_bits nm)) := by
  refine fn_j F c_bits (fun As Z ⟨i, _, _, _, e, _⟩ => by rw [e]; rfl) fun cdv A0 outer s H0 E As Z hr ⟨c, cs, ok, hl, e1, e2⟩ => ?_
  subst e1 e2
  have m5 := ok.m5
  refine jb_asg (je_call C1 hr (Nat.le_refl _) (ja_cons (je_v 0) ja_nil) (tup_chart nm c)) (jg_TA (As := [aD (dW c.sz), aTF ((dSs nm c).map aD), aD (dMs nm c)]) rfl (jga_cons (jg_name 2 c_bits.nd) (jga_cons (jg_name 3 c_bits.nd) (jga_cons (jg_name 4 c_bits.nd) jga_nil)))) ?_
  let δ0 : DSt := [some (.val (aD (dCh nm c))), some (.val (aD (eEs nm cs))), some (.val (aD (dW c.sz))), some (.val (aTF ((dSs nm c).map aD))), some (.val (aD (dMs nm c))), none, none, none, none]
  show JB _ _ δ0 _
  refine jb_lc (own := [("name", 7), ("word", 8)]) (ws := [7, 8]) 5 (List.range c.m) (dS nm c) (fun i => ((dwipe δ0 [7, 8]).set 7 (some (.val (aD (eN nm i))))).set 8 (some (.val (aD (dW (c.wd i)))))) (fun _ => true) (fun i => dS nm (c.by cs) i) (JI.eq (ji_TF (je_v 3)) (by rw [List.map_map]; rfl)) (blkOk_by (N := N_bits) (sc := defScope s_bits) (by decide +kernel))
    (fun i hi => bg2 rfl c_bits.nd rfl rfl (.inr rfl) (.inl rfl) (.inl rfl) (.inr rfl)) (fun i hi _ _ _ _ _ => jts_nil) (fun i hi _ _ _ _ _ _ => ?_) (show 5 < 9 by decide) ?_ rfl c_bits.nd
  · refine je_tup (ds := [eN nm i, dW ((c.by cs).wd i)]) (ja_cons (je_v 7) (ja_cons (JE.eq (je_tupleL m1 (JN.dat (jn_m 6 cs (eE nm) (fun e => .int (if e.contains i then 0 else 1)) (ji_T (je_v 1)) (blkOk_by (N := N_bits) (sc := relS _ (defScope s_bits)) (by decide +kernel)) (fun e he _ _ _ _ _ => JE.eq (je_intB m2 (je_notin (ds := e.map (eN nm)) (.inr rfl) (je_v 7) (je_v 6) rfl (flat_N e))) ?_) rfl c_bits.nd))) ?_) ja_nil))
    · rw [any_N H.toNam]
      cases e.contains i <;> rfl
    · show PyData.tuple _ = PyData.tuple ((cs.map _).map _)
      rw [List.map_map]
      rfl
  · refine jb_ret (A := aD (dCh nm (c.by cs))) (je_tup (ds := [dW (c.by cs).sz, .tuple (dSs nm (c.by cs)), dMs nm (c.by cs)]) (ja_cons (JE.eq (je_tupleL m1 (JN.dat (jn_m 6 cs (eE nm) (fun e => .int 2) (ji_T (je_v 1)) (blkOk_by (N := N_bits) (sc := defScope s_bits) (by decide +kernel)) (fun e he _ _ _ _ _ => je_glI m3) rfl c_bits.nd))) ?_) (ja_cons (JE.eq (je_tupleL m1 (je_v 5)) ?_) (ja_cons (je_v 4) ja_nil)))) Ret.same
    · show PyData.tuple _ = PyData.tuple ((cs.map _).map _)
      rw [List.map_map]
      rfl
    · show PyData.tuple _ = PyData.tuple _
      rw [List.filter_eq_self.mpr fun _ _ => rfl]
      rfl
/-! ### all_cuts -/
/-- all cuts of the states from 0 to n -/
def cutsN : Nat → List (List Nat)
  | 0 => [[0]]
  | n + 1 => cutsN n ++ (cutsN n).map (· ++ [n + 1])
theorem cutsN_len (n : Nat) : (cutsN n).length = 2 ^ n := by
  induction n with
  | zero => rfl
  | succ n ih =>
    show (cutsN n ++ _).length = _
    rw [List.length_append, List.length_map, ih, Nat.pow_succ]
    omega
theorem cutsN_ok (n : Nat) : ∀ e ∈ cutsN n, CutOk (n + 1) e := by
  induction n with
  | zero =>
    intro e he
    rw [List.mem_singleton.mp he]
    exact ⟨by simp, by simp, by simp⟩
  | succ n ih =>
    intro e he
    rcases List.mem_append.mp he with he | he
    · have h := ih e he
      exact ⟨h.asc, h.zero, fun x hx => by have := h.lt x hx; omega⟩
    · obtain ⟨e', he', rfl⟩ := List.mem_map.mp he
      have h := ih e' he'
      refine ⟨List.pairwise_append.mpr ⟨h.asc, by simp, fun a ha b hb => ?_⟩, List.mem_append_left _ h.zero, fun x hx => ?_⟩
      · rw [List.mem_singleton.mp hb]
        exact decide_eq_true (h.lt a ha)
      · rcases List.mem_append.mp hx with hx | hx
        · have := h.lt x hx
          omega
        · rw [List.mem_singleton.mp hx]
          omega
abbrev s_allc : Stmt := topS 32
abbrev N_allc : List Str := ["chart", "known", "found", "name", "cut"]
theorem c_allc : FnScope N_allc ["chart"] (defScope s_allc) := ⟨rfl, rfl, rfl, by decide +kernel, rfl, by decide +kernel, by decide +kernel⟩
def R_allc (nm : Nat → Str) : Rl := fun As Z => ∃ (c : Ch), c.Ok ∧ As = [aD (dCh nm c)] ∧ Z = aD (eLs nm (cutsN (c.m - 1)))
theorem f_allc (H : NamX nm) (F : Fun K "all_cuts" "all_cuts" s_allc f fd) (C1 : Cal P w K mg base k "names" (R_names nm)) : FnOk P w K mg base CX0 (k + 1) f fd ["chart"] (spJ (R_allc nm)) := by
  refine fn_j F c_allc (fun As Z ⟨i, _, e, _⟩ => by rw [e]; rfl) fun cdv A0 outer s H0 E As Z hr ⟨c, ok, e1, e2⟩ => ?_
  subst e1 e2
  have m5 := ok.m5
  obtain ⟨m, hm⟩ : ∃ m, c.m = m + 1 := ⟨c.m - 1, by have := ok.m1; omega⟩
  have e0 : List.range c.m = 0 :: (List.range m).map (· + 1) := by rw [hm, List.range_succ_eq_map]
  refine jb_set 1 c_allc.nd (je_call C1 hr (Nat.le_refl _) (ja_cons (je_v 0) ja_nil) ⟨c, rfl, rfl⟩) ?_
  refine jb_set 2 c_allc.nd (je_lst (ds := [eE nm [0]]) (ja_cons (JE.eq (je_slT (ds := (List.range c.m).map (eN nm)) (je_v 1) jo_none (jo_some je_int)) ?_) ja_nil)) ?_
  · show PyData.tuple (cutD _ none (some (1 : Int))) = _
    rw [show ((1 : Int)) = ((1 : Nat) : Int) from rfl, cutD_to, e0]
    rfl
  let δi : Nat → Option Cell → DSt := fun i c3 => [some (.val (aD (dCh nm c))), some (.val (aD (dNs nm c))), some (.val (aD (eLs nm (cutsN i)))), c3, none]
  refine jb_cons (M := fun δ' => ∃ c3, δ' = δi m c3) (js_for (I := fun i δ' => i ≤ m ∧ ∃ c3, δ' = δi i c3) (xs := (List.range m).map fun i => aD (eN nm (i + 1))) (JI.eq (ji_tup (je_slT (ds := (List.range c.m).map (eN nm)) (je_v 1) (jo_some je_int) jo_none)) ?_) PassesOwn.never rfl ⟨Nat.zero_le _, none, rfl⟩ (fun i A δ' hA ⟨hi, c3, e⟩ => ?_) (fun δ' ⟨_, c3, e⟩ => ⟨c3, ?_⟩)) fun δ' ⟨c3, e⟩ => ?_
  · have h := cutD_from (ds := (List.range c.m).map (eN nm)) 1
    rw [show ((1 : Int)) = ((1 : Nat) : Int) from rfl, h, e0, List.map_cons, List.map_map]
    show List.map aD (List.map _ _) = _
    rw [List.map_map]
    rfl
  · subst e
    have hi2 : i < m := by
      have := (List.getElem?_eq_some_iff.mp hA).1
      rw [List.length_map, List.length_range] at this
      exact this
    rw [List.getElem?_map, List.getElem?_range hi2] at hA
    cases hA
    refine ⟨_, _, jg_name 3 c_allc.nd, ?_⟩
    have hl := cutsN_len i
    have h16 : 2 ^ i ≤ 2 ^ 4 := Nat.pow_le_pow_right (by decide) (by omega)
    have hck := cutsN_ok i
    let δw : DSt := δi i (some (.val (aD (eN nm (i + 1)))))
    refine jb_cons (M := fun d => i + 1 ≤ m ∧ ∃ c3, d = δi (i + 1) c3) (js_set 2 (je_addL (δ1 := δw) (es := ((cutsN i).map (· ++ [i + 1])).map (eE nm)) (je_v 2) (JE.eq (JN.dat (jn_m 4 (cutsN i) (eE nm) (fun e => eE nm (e ++ [i + 1])) (ji_L (je_v 2)) (blkOk_by (N := N_allc) (sc := defScope s_allc) (by decide +kernel)) (fun e he _ _ _ _ _ => ?_) rfl c_allc.nd)) ?_) ?_) ⟨hi2, some (.val (aD (eN nm (i + 1)))), ?_⟩ c_allc.nd) fun δ' h => jb_nil h
    · have e9 : (e ++ [i + 1]).map (eN nm) = e.map (eN nm) ++ [eN nm (i + 1)] := by rw [List.map_append]; rfl
      have hlen : e.length ≤ 5 := by
        have h1 := List.Nodup.length_le_of_subset (l₂ := List.range (i + 1)) (asc_nodup linN (hck e he).asc) fun x hx => List.mem_range.mpr ((hck e he).lt x hx)
        rw [List.length_range] at h1
        omega
      show JE _ _ _ _ (aD (.tuple ((e ++ [i + 1]).map (eN nm))))
      refine je_tup ?_ (by rw [List.length_map, List.length_append]; exact small (by simp; omega))
      rw [e9, List.map_append]
      exact ja_star (.inr rfl) (je_v 4) (ja_cons (je_v 3) ja_nil)
    · show PyData.list _ = PyData.list _
      rw [List.map_map]
      rfl
    · rw [List.length_map, List.length_map, List.length_map, hl]
      exact small (by omega)
    · show _ = δi (i + 1) _
      rw [← List.map_append]
      rfl
  · rw [e, List.length_map, List.length_range]
  · subst e
    have e7 : c.m - 1 = m := by omega
    rw [e7]
    exact jb_ret (je_v 2) Ret.same
end
end J
/-! The key of hardest_first: what its lambda gives. -/
namespace J
open PySem PySem.Spec PyProof.Rows L2
section
variable {P : Program} {w : World} {A : Around} {E : Value → Shared → Prop} {s : Shared} {env : PySem.Env} {mg : Str → Option Value}
/-- what the lambda's frame must be -/
structure LEnv (h : Heap) (env : PySem.Env) (mg : Str → Option Value) (v : Value) : Prop where
  kind : env.scope.kind = .function
  loc : env.kindOf "pair" = some .local
  glo : env.kindOf "len" = some .globalImplicit
  ns : ∃ m, h.Ns env.locals m ∧ m "pair" = some v
  gl : h.Ns env.globals mg
  miss : mg "len" = none
  bl : ∃ mb, h.Ns env.builtins mb ∧ mb "len" = some (.builtin "len")
theorem lam_len {a b : Addr} {it ib : Array Value} {i : Int} {j k1 : Nat} {p1 p2 p3 p4 p5 : Pos} {Q : Value → Shared → Prop} (L : LEnv s.heap env mg (.ref a)) (ha : s.heap.IsTuple a it) (hi : seqIndex? i it.size = some j) (h64 : -(2 ^ 63) ≤ i ∧ i < 2 ^ 63) (hb : it[j]? = some (.ref b)) (hib : s.heap.IsTuple b ib) (hl : (ib.size : Int) < 2 ^ 63)
    (h : ∀ t n, Q (.int ib.size t) { s with toks := n }) : wpAny (model P w) A (eval (.Call (.Name "len" p1) [.Subscript (.Name "pair" p2) (.Constant (.int i) k1 p3) p4] [] p5) env) Q E s := by
  obtain ⟨mb, hb1, hb2⟩ := L.bl
  obtain ⟨m, hn1, hn2⟩ := L.ns
  refine wpAny_Call_Name_kw (Calls.Name_function_global L.kind L.glo (Calls.loadGlobal_builtin L.gl L.miss hb1 hb2 ?_))
  refine PyProof.Rows.callWith_builtin1 ?_
  show wpAny _ _ (spliced ((false, eval (.Subscript (.Name "pair" p2) (.Constant (.int i) k1 p3) p4) env) :: backTo p5 (starEach [] env))) _ _ s
  refine Calls.spliced_cons (Subscript_ (wpAny_Name (wpAny_loadName_local L.kind L.loc hn1 hn2 (wpAny_Constant_int ?_))))
  refine subscriptTail_builtinR (x := .ref b) (s := { s with toks := s.toks + 1 }) ha.typeIs slot_tuple_getitem.lookup (getItem_tuple ha h64.1 h64.2 hi hb ⟨rfl, ?_⟩) rfl
  exact Calls.spliced_nil (len_tuple (s := { s with toks := s.toks + 1 }) hib hl (h _ _))
/-- the whole key -/
theorem lam_key {a b c : Addr} {ib ic : Array Value} {k1 k2 k3 : Nat} {d : PyData} {p1 p2 p3 p4 p5 q1 q2 q3 q4 q5 r1 r2 r3 r4 : Pos} (L : LEnv s.heap env mg (.ref a)) (ha : s.heap.IsTuple a #[.ref b, .ref c]) (hb : s.heap.IsTuple b ib) (hc : s.heap.IsTuple c ic) (lb : (ib.size : Int) < 2 ^ 63) (lc : (ic.size : Int) < 2 ^ 63) (rd : Reads s.heap (.ref a) d []) :
    wpAny (model P w) A (eval (.Tuple [.BinOp (.UnaryOp .USub (.Call (.Name "len" p1) [.Subscript (.Name "pair" p2) (.Constant (.int 0) k1 p3) p4] [] p5) r1) .Sub (.Call (.Name "len" q1) [.Subscript (.Name "pair" q2) (.Constant (.int 1) k2 q3) q4] [] q5) r2, .Name "pair" r3] k3 r4) env)
      (PySem.W.KeyPure (.tuple [.int (-(ib.size : Int) - (ic.size : Int)), d]) s) E s := by
  obtain ⟨m, hn1, hn2⟩ := L.ns
  refine wpAny_Tuple_spliced ?_
  show wpAny _ _ (spliced ((false, eval (.BinOp (.UnaryOp .USub (.Call (.Name "len" p1) [.Subscript (.Name "pair" p2) (.Constant (.int 0) k1 p3) p4] [] p5) r1) .Sub (.Call (.Name "len" q1) [.Subscript (.Name "pair" q2) (.Constant (.int 1) k2 q3) q4] [] q5) r2) env) :: backTo r4 (starEach [.Name "pair" r3] env))) _ _ s
  refine Calls.spliced_cons (wpAny_BinOp (UnaryOp_ (lam_len L ha (seqIndex_of (k := 0) (by decide) (by show (0:Int) < 2; decide)) (by decide) rfl hb lb fun t n => ?_)))
  refine PySem.P.neg_int ?_
  refine lam_len (s := { s with toks := n + 1 }) L ha (seqIndex_of (k := 1) (by decide) (by show (1:Int) < 2; decide)) (by decide) rfl hc lc fun t2 n2 => ?_
  refine PySem.P.sub_int ?_
  show wpAny _ _ (spliced ((false, eval (.Name "pair" r3) env) :: backTo r4 (starEach [] env))) _ _ _
  refine Calls.spliced_cons (wpAny_Name (wpAny_loadName_local L.kind L.loc hn1 hn2 (Calls.spliced_nil ⟨(by rw [sizeLine_eq]; simp), ?_⟩)))
  refine ⟨_, _, rfl, fun b o e => Heap.get?_push_of_some _ e, ?_⟩
  have r0 := PyProof.Rows.Reads.keeps (h' := s.heap.push { cls := .type "tuple", data := .seq (List.toArray [Value.int (-(ib.size : Int) - (ic.size : Int)) n2, .ref a]) }) (fun b o e => Heap.get?_push_of_some _ e) rd
  exact .tuple (as := [] ++ ([] ++ [])) (Heap.get?_push_size _ rfl) rfl rfl (.cons (.int _ _) (.cons r0 .nil))
end
end J
/-! The lambda of hardest_first made, called; sorted by it. -/
namespace J
open PySem PySem.Spec PyProof.Rows L2
section
variable {P : Program} {w : World} {A : Around} {E : Value → Shared → Prop} {s : Shared} {mg : Str → Option Value}
theorem lam_call {params : Arguments} {body : Expr} {scope : Scope} {f c' : Addr} {qual : Str} {cl : List (Str × Addr)} {pm ctv v : Value} {k : PyData} (hroom : A.depth < recursionLimit) (ho : s.heap.get? f = some (PySem.W.kla_obj "<lambda>" qual params body scope cl pm c' ctv)) (hcd : s.heap.CodeRec (.ref c') qual)
    (hco : scope.isCoroutine = false) (hgen : scope.isGenerator = false) (hk : scope.kind = .function) (hcell : ∀ x ∈ scope.names, x.2 ≠ .cell) (hloc : scope.names.lookup ("pair" : Str) = some NameKind.local) (hglo : scope.names.lookup ("len" : Str) = some NameKind.globalImplicit) (nolim : s.heap.NoLimit)
    (gl : s.heap.Ns mainGlobals mg) (miss : mg "len" = none) (bl : ∃ mb, s.heap.Ns builtinsNs mb ∧ mb "len" = some (.builtin "len")) (hbind : bindArgs (PySem.W.kla_fn "<lambda>" qual params body scope cl pm (.ref c') ctv) ⟨[v], []⟩ = pure [(("pair" : Str), v)])
    (hbody : ∀ (A' : Around) (s' : Shared) (env : PySem.Env), LEnv s'.heap env mg v → (∀ b o, s.heap.get? b = some o → s'.heap.get? b = some o) → wpAny (model P w) A' (eval body env) (PySem.W.KeyPure k s') (fun _ _ => False) s') :
    wpAny (model P w) A (call (.ref f) [v]) (PySem.W.KeyPure k s) E s := by
  refine wpAny_call (PySem.W.kla_callFunE hroom ho rfl hco hgen rfl hcd ?_)
  rw [hbind]
  refine wpAny_pure (wpAny_newFunctionEnv hcell (fun x hx => ?_) (fun h₁ hns hsb => ⟨nolim.fresh _ hsb, ?_⟩) hk)
  · rw [List.mem_singleton.mp hx]
    exact hloc
  · have kp : ∀ b o, s.heap.get? b = some o → h₁.get? b = some o := fun b o e => hsb.extBut b o (Nat.ne_of_lt (Heap.lt_size e)) (Heap.get?_push_of_some _ e)
    obtain ⟨mb, b1, b2⟩ := bl
    refine PySem.W.kla_codeExpr (wpAny_mono (hbody _ { s with heap := h₁, toks := s.toks + ([(("pair" : Str), v)] : List (Str × Value)).length } _ ⟨hk, hloc, hglo, ⟨_, hns, rfl⟩, gl.keeps kp, miss, mb, b1.keeps kp, b2⟩ kp) (fun u s' hu => ?_) fun _ _ z => z.elim)
    obtain ⟨h', tk, e1, e2, e3⟩ := hu
    exact ⟨h', tk, e1, fun b o e => e2 b o (kp b o e), e3⟩
end
/-! ### made -/
section
variable {X : Cx} {pins : List (Addr × Obj)} {σ : L2.St} {H : Hp} {s : Shared} {F B : Hp} {δ : DSt} {T : List Addr} {A0 : AV} {v0 : V} {n : Nat} {c P : Addr}
theorem upd_comm {H : Hp} {a b : Addr} {o u : HO} (h : a ≠ b) : upd (upd H a o) b u = upd (upd H b u) a o := by
  funext x
  by_cases e : x = b
  · subst e
    rw [upd_same, upd_ne (fun z => h z.symm), upd_same]
  · by_cases e2 : x = a
    · subst e2
      rw [upd_ne e, upd_same, upd_same]
    · rw [upd_ne e, upd_ne e2, upd_ne e2, upd_ne e]
theorem lam_make3 {params : Arguments} {body : Expr} {scope : Scope} {pos : Pos} {Ex : Value → Shared → Prop} {Q : Value → Shared → Prop} (I : L2.Inv X pins σ H s) (E : Env F B H σ δ) (hn : δ[n]? = some (some (.mut (mTb v0 T A0)))) (TB : LamX.TabB X.base X.mg c P) (hP : P ∈ T) (hcode : X.env.code = .ref c)
    (hq : X.env.qual ++ "<lambda>" = q0) (hdef : defaultsOf params X.env = ([], [])) (hfree : ∀ y ∈ scope.names, y.2 = .free → ∃ c, X.env.cells.lookup y.1 = some c)
    (h : ∀ (f c' : Addr) (pm ctv : Value) (B1 H1 : Hp) (s' : Shared), L2.Inv X pins σ H1 s' → Env F B1 H1 σ δ → Same B B1 →
      s'.heap.get? f = some (PySem.W.kla_obj "<lambda>" q0 params body scope (cloFrom X.env.cells scope.names []) pm c' ctv) → s'.heap.CodeRec (.ref c') q0 → Q (.ref f) s') :
    wpAny (model X.prog X.w) X.A (eval (.Lambda params body scope pos) X.env) Q Ex s := by
  obtain ⟨v, R, e1, ⟨rfl, rfl, aA, tg⟩, free, _⟩ := E.wr hn
  obtain ⟨ps, hPt, ht, ha⟩ := tg P hP
  refine PySem.W.kla_eval hdef ?_
  rw [hq]
  have bP : s.heap.BuiltinsAt X.mg P := TB.bm.keeps I.bk
  have hP' : s.heap.get? P = some { cls := .none, data := .fields ps } := I.hok P _ hPt
  cases hc : codeAmong pos ps.toList with
  | none =>
    refine PySem.W.kla_makeFunction (mg := X.mg) (c := c) (P := P) (ps := ps) (closure_ok hfree) I.ok.glob (I.mod.glob.keeps I.bk) hcode (TB.code.keeps I.bk) hP' ht hc TB.gP bP fun c' ctv h' tk hx hge hlt hrec htb => ?_
    obtain ⟨c2, oc, vs, t, e2, hoc, hd, hv⟩ := id hrec
    cases e2
    have nC : H c' = none := I.hok.fresh hge
    have nPc : P ≠ c' := ne_of_none hPt nC
    have up : ∀ b o, h'.get? b = some o → (h'.push (PySem.W.kla_obj "<lambda>" q0 params body scope (cloFrom X.env.cells scope.names []) ((X.mg "__name__").getD .none) c' ctv)).get? b = some o := fun b o e => Heap.get?_push_of_some _ e
    have I1 := LamX.inv_table (q := q0) (t' := tk) (more := #[rawInt pos.line, rawInt pos.col, .ref c']) (h' := h'.push (PySem.W.kla_obj "<lambda>" q0 params body scope (cloFrom X.env.cells scope.names []) ((X.mg "__name__").getD .none) c' ctv)) I hPt
      (fun b o hb e => up _ _ (hx b o hb e)) (up _ _ htb) hge ⟨oc, vs, t, up _ _ hoc, hd, hv⟩
    have E1 := E.laid (o := LamX.CodeO c' q0) nC
    obtain ⟨v', R', f1, ⟨rfl, rfl, aA', tg'⟩, _, wr1⟩ := E1.wr hn
    have sB : Same B (upd B c' (LamX.CodeO c' q0)) := same_upd (E.bh.free nC)
    have eL : (ps ++ #[rawInt pos.line, rawInt pos.col, .ref c']).toList = ps.toList ++ [rawInt pos.line, rawInt pos.col, .ref c'] := by simp
    have E2 := wr1 P (.tbl (ps ++ #[rawInt pos.line, rawInt pos.col, .ref c'])) (mTb v' R' A0) hP (fun _ z => nomatch z) ⟨rfl, rfl, aA', fun P' hP2 => ?_⟩
    · rw [set_same hn, upd_comm (fun z => nPc z.symm)] at E2
      exact h h'.objs.size c' ((X.mg "__name__").getD .none) ctv _ _ _ I1 E2 sB (Heap.get?_push_size _ rfl) ⟨c', oc, vs, t, rfl, up _ _ hoc, hd, hv⟩
    · by_cases e : P' = P
      · subst e
        refine ⟨_, upd_same, by rw [eL]; exact PySem.TriplesOk_snoc _ _ _ _ ht, fun p' cv hcv => ?_⟩
        rw [eL] at hcv
        rcases LamX.among_app _ ht hcv with z | z
        · obtain ⟨c0, e1, e2⟩ := ha p' cv z
          exact ⟨c0, e1, sB _ _ e2⟩
        · exact ⟨c', z, upd_same⟩
      · obtain ⟨ps', a1, a2, a3⟩ := tg' P' hP2
        exact ⟨ps', by rw [upd_ne e]; exact a1, a2, a3⟩
  | some cv =>
    obtain ⟨c', e, hco⟩ := ha pos cv hc
    subst e
    refine PySem.W.kla_makeFunctionHit (mg := X.mg) (c := c) (P := P) (ps := ps) (closure_ok hfree) I.ok.glob (I.mod.glob.keeps I.bk) hcode (TB.code.keeps I.bk) hP' ht hc bP fun ctv h' tk hx hsz => ?_
    have I1 : L2.Inv X pins σ H { s with heap := h'.push (PySem.W.kla_obj "<lambda>" q0 params body scope (cloFrom X.env.cells scope.names []) ((X.mg "__name__").getD .none) c' ctv), toks := tk } := I.kept fun b o e => Heap.get?_push_of_some _ (hx b o e)
    obtain ⟨⟨oc, vs, t, hoc, hd, hv⟩, _⟩ := I.hok c' _ (E.bh _ _ hco)
    exact h h'.objs.size c' ((X.mg "__name__").getD .none) ctv B H _ I1 E (fun _ _ e => e) (Heap.get?_push_size _ rfl) ⟨c', oc, vs, t, rfl, Heap.get?_push_of_some _ (hx _ _ hoc), hd, hv⟩
end
end J
/-! sorted(pairs, key=lambda pair: (-len(pair[0]) - len(pair[1]), pair)). -/
namespace J
open PySem PySem.Spec PyProof.Rows L2
mutual
theorem reads_nil {h : Heap} : ∀ (d : PyData) (v : Value) (as : List Addr), cmpb d d = true → Reads h v d as → as = []
  | .int _, _, _, _, .int _ _ => rfl
  | .str _, _, _, _, .str _ _ => rfl
  | .tuple xs, _, _, c, .tuple _ _ _ r => readsAll_nil xs _ _ (by rw [cmpb] at c; exact c) r
  | .none, _, _, c, _ => by rw [cmpb] at c; cases c; all_goals (intros; simp_all)
  | .bool _, _, _, c, _ => by rw [cmpb] at c; cases c; all_goals (intros; simp_all)
  | .list _, _, _, c, _ => by rw [cmpb] at c; cases c; all_goals (intros; simp_all)
  | .dict _, _, _, c, _ => by rw [cmpb] at c; cases c; all_goals (intros; simp_all)
theorem readsAll_nil {h : Heap} : ∀ (ds : List PyData) (vs : List Value) (as : List Addr), cmpbAll ds ds = true → ReadsAll h vs ds as → as = []
  | [], _, _, _, .nil => rfl
  | d :: ds, _, _, c, .cons r t => by
    rw [cmpbAll, Bool.and_eq_true] at c
    rw [reads_nil d _ _ c.1 r, readsAll_nil ds _ _ c.2 t]
    rfl
end
/-- the key of a pair -/
def keyP : PyData → PyData
  | .tuple [.tuple as, .tuple bs] => .tuple [.int (-(as.length : Int) - (bs.length : Int)), .tuple [.tuple as, .tuple bs]]
  | _ => .none
/-- a pair of tuples -/
def IsPr (d : PyData) : Prop := ∃ as bs, d = .tuple [.tuple as, .tuple bs]
def srtP (ds : List PyData) : List PyData := ds.mergeSort (PySem.W.dataLe false keyP)
theorem istup_keep {h h' : Heap} {a : Addr} {its : Array Value} (k : ∀ b o, h.get? b = some o → h'.get? b = some o) (x : h.IsTuple a its) : h'.IsTuple a its := let ⟨o, ho, r⟩ := x; ⟨o, k _ _ ho, r⟩
section
variable {X : Cx} {δ : DSt} {T : List Addr} {v0 : V} {n : Nat} {c P : Addr} {ds : List PyData} {y : Str} {params : Arguments} {scope : Scope} {p py lpos kpos pos : Pos} {k1 k2 k3 : Nat} {p1 p2 p3 p4 p5 q1 q2 q3 q4 q5 r1 r2 r3 r4 : Pos}
theorem je_sortLam {j : Nat} (hr : Room (j + 1) X.A) (hn : δ[n]? = some (some (.mut (mTb v0 T (aD (.list ds)))))) (pr : ∀ d ∈ ds, IsPr d) (cm : ∀ d ∈ ds, ∀ e ∈ ds, cmpb d e = true) (sh : ∀ d ∈ ds, SeqAt.shaped d = true)
    (TB : LamX.TabB X.base X.mg c P) (hP : P ∈ T) (hcode : X.env.code = .ref c) (hq : X.env.qual ++ "<lambda>" = q0) (hm : X.mg "sorted" = none) (hml : X.mg "len" = none)
    (hN : X.N[n]? = some y) (hv : Vis X.env.scope y) (hd : (y == ("__debug__" : Str)) = false) (hcd : (y == ("__classdict__" : Str)) = false)
    (hdef : defaultsOf params X.env = ([], [])) (hco : scope.isCoroutine = false) (hgen : scope.isGenerator = false) (hk : scope.kind = .function) (hcell : ∀ x ∈ scope.names, x.2 ≠ .cell ∧ x.2 ≠ .free) (hloc : scope.names.lookup ("pair" : Str) = some NameKind.local) (hglo : scope.names.lookup ("len" : Str) = some NameKind.globalImplicit)
    (hbind : ∀ (body : Expr) (cl : List (Str × Addr)) (pm cv ctv v : Value), bindArgs (PySem.W.kla_fn "<lambda>" q0 params body scope cl pm cv ctv) ⟨[v], []⟩ = pure [(("pair" : Str), v)]) (hg : Gl X "sorted")
    (he : backTo pos (starEach [.Name y py] X.env) = (false, eval (.Name y py) X.env) :: backTo pos (starEach [] X.env) := by rfl) :
    JE X (.Call (.Name "sorted" p) [.Name y py] [⟨some "key", .Lambda params (.Tuple [.BinOp (.UnaryOp .USub (.Call (.Name "len" p1) [.Subscript (.Name "pair" p2) (.Constant (.int 0) k1 p3) p4] [] p5) r1) .Sub (.Call (.Name "len" q1) [.Subscript (.Name "pair" q2) (.Constant (.int 1) k2 q3) q4] [] q5) r2, .Name "pair" r3] k3 r4) scope lpos, kpos⟩] pos) δ δ (aD (.list (srtP ds))) := by
  refine ⟨fun pins s σ H Q I ⟨F, B, E, q⟩ => ?_⟩
  obtain ⟨v, R, e1, ⟨rfl, rfl, aA, tg⟩, _, _⟩ := E.wr hn
  refine wpAny_Call_Name_kw (ld_blt I hg hm PyProof.Rows.boot_sorted ?_ (by decide))
  refine PyProof.Rows.callWith_kw ?_ he
  rw [he]
  refine Calls.spliced_cons (thn ((pe_var (pos := py) (i := n) hN hv hd hcd).run pins s σ H (fun u H1 => u = v ∧ H1 = H) I ⟨v, e1, rfl, rfl⟩) fun u s1 ⟨x, H1, I1, rx, ⟨ex, eH⟩⟩ => ?_)
  subst ex eH
  refine Calls.spliced_nil ?_
  show wpAny _ _ (evalAll ((do let v ← eval (.Lambda params _ scope lpos) X.env; standAt pos; pure v) :: (backToKw pos (keywordEach [] X.env)).map (·.2))) _ _ s1
  refine wpAny_evalAll_cons (wpAny_bind (lam_make3 I1 E hn TB hP hcode hq hdef (fun y hy e => absurd e (hcell y hy).2) fun f c' pm ctv B2 H2 s2 I2 E2 sB hf hcr => wpAny_bind (wpAny_standAt (wpAny_pure (wpAny_evalAll_nil ?_)))))
  show wpAny _ _ (call (.builtin "sorted") [u] [(Str.ofString "key", .ref f)]) _ _ s2
  obtain ⟨a, xs, rfl, hxs, hl, dx⟩ := Dd.lst_eq (aD (.list ds) |>.mono sB aA)
  cases rx
  obtain ⟨its, rv, pl, hz⟩ := I2.list (SqL.of (E2.bh _ _ hxs))
  have hu := hr.un
  have dlen : (xs.zip ds).length = ds.length := by rw [List.length_zip, dx.len, Nat.min_self]
  have mem : ∀ b ∈ xs.zip ds, b.2 ∈ ds := fun b hb => (List.of_mem_zip hb).2
  have keyE : ∀ d ∈ ds, ∃ as bs, d = .tuple [.tuple as, .tuple bs] ∧ keyP d = .tuple [.int (-(as.length : Int) - (bs.length : Int)), d] := fun d hd => by
    obtain ⟨as, bs, rfl⟩ := pr d hd
    exact ⟨as, bs, rfl, rfl⟩
  have alk : ∀ d ∈ ds, ∀ e ∈ ds, cmpb (keyP d) (keyP e) = true := fun d hd e he => by
    obtain ⟨as, bs, _, e1⟩ := keyE d hd
    obtain ⟨as', bs', _, e2⟩ := keyE e he
    rw [e1, e2, cmpb]
    simp only [cmpbAll, cmpb, cm d hd e he, Bool.true_and, Bool.and_true]
  refine PySem.W.sorted_key_data (β := V × PyData) (R := fun v b => RelV b.1 v ∧ Dd B2 b.1 b.2) (b := false) (fun b => keyP b.2) (vs := its) pl.isList (bs := xs.zip ds) (each_vals rv dx) (fun d hd e he => ?_) ?_ (by rw [dlen]; exact hl) (fun b hb => ?_) (PyProof.Rows.ksk_s1 _ _) (fun _ => PyProof.Rows.ksk_l1 _ _) (fun _ => PyProof.Rows.ksk_t1 _ _) (fun v b ⟨rb, db⟩ hb h tk kp => ?_) fun out cc h' tk kp fr hD lo eo => ?_
  · obtain ⟨b1, h1, rfl⟩ := List.mem_map.mp hd
    obtain ⟨b2, h2, rfl⟩ := List.mem_map.mp he
    exact cmp_alike _ _ (alk _ (mem b1 h1) _ (mem b2 h2))
  · refine .inl fun d hd => ?_
    obtain ⟨b1, h1, rfl⟩ := List.mem_map.mp hd
    obtain ⟨as, bs, _, e1⟩ := keyE _ (mem b1 h1)
    exact ⟨_, _, e1⟩
  · obtain ⟨as, bs, _, e1⟩ := keyE _ (mem b hb)
    have := SeqAt.depth_of_shaped (sh _ (mem b hb))
    rw [e1]
    simp only [PyData.depth, PyData.depthAll]
    omega
  · obtain ⟨as, bs, ed, e1⟩ := keyE _ (mem b hb)
    show wpAny _ _ _ (PySem.W.KeyPure (keyP b.2) _) _ _
    rw [e1]
    have kp0 : ∀ b o, X.base.get? b = some o → h.get? b = some o := fun b o e => kp b o (I2.bk b o e)
    obtain ⟨rdas, rd⟩ := Dp.reads I2 b.2 b.1 v (Dd.dp E2.bh _ _ db) rb
    have rd0 := reads_nil _ _ _ (cm _ (mem b hb) _ (mem b hb)) rd
    subst rd0
    rw [ed] at db
    obtain ⟨a3, xs3, ea3, hB3, _, dx3⟩ := Dd.tup_eq db
    rw [ea3] at rb
    cases rb
    cases dx3 with
    | cons d1 t1 =>
      cases t1 with
      | cons d2 t2 =>
        cases t2
        obtain ⟨b4, xs4, rfl, hB4, l4, dx4⟩ := Dd.tup_eq d1
        obtain ⟨b5, xs5, rfl, hB5, l5, dx5⟩ := Dd.tup_eq d2
        obtain ⟨it3, rv3, pl3, _⟩ := I2.tuple (SqT.of (E2.bh _ _ hB3))
        obtain ⟨it4, rv4, pl4, _⟩ := I2.tuple (SqT.of (E2.bh _ _ hB4))
        obtain ⟨it5, rv5, pl5, _⟩ := I2.tuple (SqT.of (E2.bh _ _ hB5))
        obtain ⟨w1, w2, rfl, g1, g2⟩ := vals2 rv3
        cases g1
        cases g2
        have n4 : it4.toArray.size = as.length := by rw [List.size_toArray, ← rv4.length, dx4.len]
        have n5 : it5.toArray.size = bs.length := by rw [List.size_toArray, ← rv5.length, dx5.len]
        have h63 := line63
        obtain ⟨mb, m1, m2⟩ := I2.mod.blt
        refine lam_call (s := { s2 with heap := h, toks := tk }) (mg := X.mg) ?_ (kp _ _ hf) (let ⟨c2, oc, vs, t, z1, z2, z3, z4⟩ := hcr; ⟨c2, oc, vs, t, z1, kp _ _ z2, z3, z4⟩) hco hgen hk (fun x hx => (hcell x hx).1) hloc hglo (I2.mod.nolimit.keeps kp0) (I2.mod.glob.keeps kp0) hml ⟨mb, m1.keeps kp0, (m2 "len" (by decide)).trans boot_len⟩ (hbind _ _ _ _ _ _) fun A' s' env L kp' => ?_
        · have := hr.dp
          show X.A.depth < _
          omega
        · have kk : ∀ b o, s2.heap.get? b = some o → s'.heap.get? b = some o := fun b o e => kp' b o (kp b o e)
          have hh := lam_key (P := X.prog) (w := X.w) (A := A') (E := fun _ _ => False) (k1 := k1) (k2 := k2) (k3 := k3) (p1 := p1) (p2 := p2) (p3 := p3) (p4 := p4) (p5 := p5) (q1 := q1) (q2 := q2) (q3 := q3) (q4 := q4) (q5 := q5) (r1 := r1) (r2 := r2) (r3 := r3) (r4 := r4) L (istup_keep kk pl3) (istup_keep kk pl4) (istup_keep kk pl5) (by rw [n4]; omega) (by rw [n5]; omega) (PyProof.Rows.Reads.keeps kk rd)
          rw [n4, n5] at hh
          exact hh
  · obtain ⟨rvo, ddo⟩ := each_out eo
    have em : ((xs.zip ds).mergeSort (PySem.W.dataLe false fun b : V × PyData => keyP b.2)).map (·.2) = srtP ds := by
      unfold srtP
      rw [PySem.W.sort_maps (r := PySem.W.dataLe false fun b : V × PyData => keyP b.2) (s := PySem.W.dataLe false keyP) (fun b : V × PyData => b.2) (fun a _ b _ => rfl), List.map_snd_zip (by rw [dx.len]; exact Nat.le_refl _)]
    rw [em] at ddo
    have lsrt : (srtP ds).length = ds.length := (List.mergeSort_perm ds _).length_eq
    have hn2 : H2 (s2.heap.objs.size + 1) = none := I2.hok.fresh (Nat.le_succ _)
    have lY : (((xs.zip ds).mergeSort (PySem.W.dataLe false fun b : V × PyData => keyP b.2)).map (·.1)).length ≤ sizeLine := by
      rw [ddo.len, lsrt]
      exact hl
    have J := I2.laid (t' := tk) (o := .lst (((xs.zip ds).mergeSort (PySem.W.dataLe false fun b : V × PyData => keyP b.2)).map (·.1))) kp (Nat.le_succ _) ⟨lY, out, cc, rvo, hD⟩
    have sB2 := same_upd (o := .lst (((xs.zip ds).mergeSort (PySem.W.dataLe false fun b : V × PyData => keyP b.2)).map (·.1))) (E2.bh.free hn2)
    exact ⟨.ref _, _, J, rfl, q _ _ _ (E2.laid hn2) (sB.trans sB2) (.lst upd_same (by rw [lsrt]; exact hl) (DdAll.mono sB2 _ _ ddo))⟩
end
end J
/-! hardest_first. -/
namespace J
open PySem PySem.Spec L2
section
variable {P : Program} {w : World} {K : PySem.W.Frag} {mg : Str → Option Value} {base : Heap} {nm : Nat → Str} {f : Addr} {fd : FuncData} {k : Nat}
/-- as fn_jM, the code object told -/
theorem fn_jMc {x qual : Str} {st : Stmt} {N ps : List Str} {C : Value} {R : RlM} (F : Fun K x qual st f fd) (S : FnScope N ps (defScope st)) (hl : ∀ M M' As Z, R M M' As Z → As.length + 1 = ps.length ∧ Z ≠ none ∧ ∀ B H v RR, M.p B H v RR → Prec M' v RR)
    (body : ∀ (cdv : Value) (A : Around) (outer : List PySem.Env) (s : Shared) (H : Hp) (E : XK) (M M' : MV) (As : List AV) (Z : AV), cdv = fd.code → Room k (A.deeper (PyProof.Rows.envOfC qual (defScope st) s.heap.objs.size f cdv)) → R M M' As (some Z) →
      JB (cxOf CX0 P w K mg base N qual (defScope st) f cdv A outer s H E).nox (defBody st) (d0M N M As) (RetM M' Z)) : FnOk P w K mg base CX0 (k + 1) f fd ps (spM C R) := by
  obtain ⟨oc, od, kV, doc, pm, an, cdv, ct, osl, e0, lk, hcd⟩ := F.ex
  subst e0
  refine fn_of lk hcd S (fun vs H Q E ⟨B, M, M', As, Z, v0, vr, RR, e, _, _, _, h, r, _⟩ => by rw [e, List.length_cons, ← h.length]; exact (hl M M' As Z r).1) fun A outer s H vs Q E hr hsp => ?_
  obtain ⟨B, M, M', As, Z, v0, vr, RR, e, sB, hM, ho, h, r, q, _⟩ := hsp
  subst e
  obtain ⟨_, hz, hp⟩ := hl M M' As Z r
  cases Z with
  | none => exact absurd rfl hz
  | some Z' =>
    have pr := hp _ _ _ _ hM
    refine ⟨_, (body cdv A outer s H E M M' As Z' rfl hr r).nox, restR B H RR, B, env_startM sB hM ho h, fun δ' σ' B' H' hn E' s' => ?_, fun A' v B' H' hr' ⟨σ', δ', hk, E'⟩ s' a' => ?_, fun _ _ _ _ z => z.elim, fun _ _ _ _ z => z.elim⟩
    · obtain ⟨h1, h2⟩ := end_own E' hn.1 pr
      exact q .non B' H' Z' rfl s' E'.bh (fun a o z1 z2 z3 => E'.fr a o (restR_of z1 z2 z3)) h1 h2 (hn.2 B')
    · obtain ⟨h1, h2⟩ := end_own E' hk pr
      exact q v B' H' Z' rfl s' E'.bh (fun a o z1 z2 z3 => E'.fr a o (restR_of z1 z2 z3)) h1 h2 (hr' B' v a')
/-- the pairs, the hardest first -/
def hardM (nm : Nat → Str) (ps : List (List Nat × List Nat)) : List (List Nat × List Nat) := ps.mergeSort fun p q => PySem.W.dataLe false keyP (dPr nm p) (dPr nm q)
theorem hard_perm (nm : Nat → Str) (ps : List (List Nat × List Nat)) : (hardM nm ps).Perm ps := List.mergeSort_perm _ _
theorem hard_map (nm : Nat → Str) (ps : List (List Nat × List Nat)) : srtP (ps.map (dPr nm)) = (hardM nm ps).map (dPr nm) := (PySem.W.sort_maps (r := fun p q => PySem.W.dataLe false keyP (dPr nm p) (dPr nm q)) (s := PySem.W.dataLe false keyP) (dPr nm) (fun a _ b _ => rfl)).symm
theorem cmp_Pr (p q : List Nat × List Nat) : cmpb (dPr nm p) (dPr nm q) = true := by
  rw [cmpb]
  simp only [cmpbAll, cmp_E, Bool.and_self]
theorem shp_Pr (H : NamX nm) (p : List Nat × List Nat) : SeqAt.shaped (dPr nm p) = true := by
  have h1 := shp_E H p.1
  have h2 := shp_E H p.2
  have d : ∀ e : List Nat, (eE nm e).depth ≤ 2 := fun e => by
    have : PyData.depthAll (e.map (eN nm)) ≤ 1 := by
      induction e with
      | nil => simp [PyData.depthAll]
      | cons a e ih =>
        simp only [List.map_cons, PyData.depthAll, PyData.depth]
        omega
    simp only [PyData.depth]
    omega
  have d1 := d p.1
  have d2 := d p.2
  unfold SeqAt.shaped at h1 h2 ⊢
  rw [Bool.and_eq_true] at h1 h2
  have e1 : (dPr nm p).canLay0 = true := by
    show ((eE nm p.1).canLay0 && ((eE nm p.2).canLay0 && true)) = true
    rw [h1.1, h2.1]
    rfl
  rw [e1, Bool.true_and, decide_eq_true_eq]
  simp only [dPr, PyData.depth, PyData.depthAll] at d1 d2 ⊢
  omega
abbrev s_hard : Stmt := topS 34
theorem c_hard : FnScope ["pairs"] ["pairs"] (defScope s_hard) := ⟨rfl, rfl, rfl, by decide +kernel, rfl, by decide +kernel, by decide +kernel⟩
def R_hard (nm : Nat → Str) (P0 : Addr) : RlM := fun M M' As Z => ∃ (v0 : V) (T : List Addr) (ps : List (List Nat × List Nat)), P0 ∈ T ∧ M = mTb v0 T (aD (.list (ps.map (dPr nm)))) ∧ M' = M ∧ As = [] ∧ Z = some (aD (.list ((hardM nm ps).map (dPr nm))))
theorem f_hard {C : Value} {c P0 : Addr} (H : NamX nm) (F : Fun K "hardest_first" "hardest_first" s_hard f fd) (hcd : fd.code = .ref c) (TB : LamX.TabB base mg c P0) (m1 : mg "sorted" = none) (m2 : mg "len" = none) : FnOk P w K mg base CX0 (k + 1 + 1) f fd ["pairs"] (spM C (R_hard nm P0)) := by
  refine fn_jMc F c_hard (fun M M' As Z ⟨v0, T, ps, _, e1, e2, e3, e4⟩ => ⟨by rw [e3]; rfl, by rw [e4]; exact (fun z => nomatch z), by rw [e2, e1]; exact mTb_prec⟩) fun cdv A outer s H0 E M M' As Z ec hr ⟨v0, T, ps, hP, e1, e2, e3, e4⟩ => ?_
  subst e2 e1 e3
  cases e4
  rw [hcd] at ec
  subst ec
  rw [← hard_map]
  refine jb_ret (je_sortLam (n := 0) (P := P0) (c := c) (T := T) (v0 := v0) (ds := ps.map (dPr nm)) hr rfl (fun d hd => ?_) (fun d hd e he => ?_) (fun d hd => ?_) TB hP rfl rfl m1 m2 rfl (.inl rfl) rfl rfl rfl rfl rfl rfl (by decide +kernel) rfl rfl (fun _ _ _ _ _ _ => rfl) rfl) (fun _ _ h => h) rfl
  · obtain ⟨p, _, rfl⟩ := List.mem_map.mp hd
    exact ⟨_, _, rfl⟩
  · obtain ⟨p, _, rfl⟩ := List.mem_map.mp hd
    obtain ⟨q, _, rfl⟩ := List.mem_map.mp he
    exact cmp_Pr p q
  · obtain ⟨p, _, rfl⟩ := List.mem_map.mp hd
    exact shp_Pr H p
end
end J
/-! cuts_from. -/
namespace J
open PySem PySem.Spec L2
/-- at most so many cuts that part all these pairs -/
def cutsM (es : List (List Nat)) : Nat → List (List Nat × List Nat) → Option (List (List Nat))
  | _, [] => some []
  | 0, _ :: _ => none
  | n + 1, p :: ps => es.findSome? fun c => if partsM c p then (cutsM es n ((p :: ps).filter fun q => !partsM c q)).map (c :: ·) else none
theorem cutsM_len {es : List (List Nat)} : ∀ {n : Nat} {ps : List (List Nat × List Nat)} {r : List (List Nat)}, cutsM es n ps = some r → r.length ≤ n ∧ ∀ e ∈ r, e ∈ es
  | _, [], r, h => by
    rw [cutsM] at h
    cases h
    exact ⟨Nat.zero_le _, fun e he => nomatch he⟩
  | 0, _ :: _, r, h => by
    rw [cutsM] at h
    cases h
  | n + 1, p :: ps, r, h => by
    rw [cutsM] at h
    obtain ⟨e, he, h2⟩ := List.exists_of_findSome?_eq_some h
    split at h2
    · obtain ⟨r', h3, rfl⟩ := Option.map_eq_some_iff.mp h2
      obtain ⟨h4, h5⟩ := cutsM_len h3
      refine ⟨by rw [List.length_cons]; omega, fun x hx => ?_⟩
      rcases List.mem_cons.mp hx with hx | hx
      · rw [hx]; exact he
      · exact h5 x hx
    · cases h2
section
variable {X : Cx} {δ δ1 : DSt} {e : Expr} {ds : List PyData}
theorem ja_starE {p2 : Pos} {d : PyData} (hd : d = .list ds ∨ d = .tuple ds) (h1 : JE X e δ δ1 (aD d)) (hs : starEach (.Starred e p2 :: []) X.env = (true, eval e X.env) :: starEach [] X.env := by rfl) : JA X [.Starred e p2] δ δ1 (ds.map aD) := by
  have h := ja_star hd h1 ja_nil hs
  rw [List.append_nil] at h
  exact h
end
section
variable {P : Program} {w : World} {K : PySem.W.Frag} {mg : Str → Option Value} {base : Heap} {nm : Nat → Str} {f : Addr} {fd : FuncData} {k : Nat}
def optC (nm : Nat → Str) : Option (List (List Nat)) → PyData
  | some l => eEs nm l
  | none => .none
abbrev s_cutsf : Stmt := topS 33
abbrev N_cutsf : List Str := ["every", "pairs", "left", "cut", "found", "pair"]
theorem c_cutsf : FnScope N_cutsf ["every", "pairs", "left"] (defScope s_cutsf) := ⟨rfl, rfl, rfl, by decide +kernel, rfl, by decide +kernel, by decide +kernel⟩
def R_cutsf (nm : Nat → Str) (n : Nat) : Rl := fun As Z => ∃ (es : List (List Nat)) (ps : List (List Nat × List Nat)), n ≤ 100 ∧ As = [aD (eLs nm es), aD (.list (ps.map (dPr nm))), aI (n : Int)] ∧ Z = aD (optC nm (cutsM es n ps))
theorem len0P (ps : List (List Nat × List Nat)) : (((ps.map (dPr nm)).length : Int) == 0) = ps.isEmpty := by
  rw [List.length_map]
  cases ps with
  | nil => rfl
  | cons a l =>
    show _ = false
    rw [List.length_cons, beq_eq_false_iff_ne]
    omega
theorem f_cutsf (H : NamX nm) (F : Fun K "cuts_from" "cuts_from" s_cutsf f fd) (g : mg "cuts_from" = some (.ref f)) (kp : PySem.W.keepIn K (.ref f) = true) (bd : Binds K fd ["every", "pairs", "left"] []) (C1 : Cal P w K mg base k "parts_two" (R_parts2 nm)) (m1 : mg "len" = none) :
    ∀ n, FnOk P w K mg base CX0 (k + n + 1) f fd ["every", "pairs", "left"] (spJ (R_cutsf nm n)) := by
  intro n
  induction n with
  | zero =>
    refine fn_j F c_cutsf (fun As Z ⟨i, _, _, e, _⟩ => by rw [e]; rfl) fun cdv A0 outer s H0 E As Z hr ⟨es, ps, hn, e1, e2⟩ => ?_
    subst e1 e2
    refine jb_ifR (p := ps.isEmpty) (JT.eq (jt_cmp op_eq rop_eqI (je_lenL m1 (je_v 1)) je_int) (len0P ps)) (fun h => ?_) fun h => ?_
    · rw [List.isEmpty_iff.mp h, cutsM]
      exact jb_ret (je_tup (ds := []) ja_nil) Ret.same
    · refine jb_ifR (p := true) (jt_cmp op_eq rop_eqI (je_v 2) je_int) (fun _ => ?_) (fun z => by cases z)
      cases ps with
      | nil => cases h
      | cons p ps =>
        rw [cutsM]
        exact jb_ret je_non Ret.same
  | succ n ih =>
    have C0 : Cal P w K mg base (k + n + 1) "cuts_from" (R_cutsf nm n) := ⟨f, fd, _, ih, g, kp, bd⟩
    refine fn_j F c_cutsf (fun As Z ⟨i, _, _, e, _⟩ => by rw [e]; rfl) fun cdv A0 outer s H0 E As Z hr ⟨es, ps0, hn, e1, e2⟩ => ?_
    subst e1 e2
    refine jb_ifR (p := ps0.isEmpty) (JT.eq (jt_cmp op_eq rop_eqI (je_lenL m1 (je_v 1)) je_int) (len0P ps0)) (fun h => ?_) fun h => ?_
    · rw [List.isEmpty_iff.mp h, cutsM]
      exact jb_ret (je_tup (ds := []) ja_nil) Ret.same
    · refine jb_ifR (p := false) (JT.eq (jt_cmp op_eq rop_eqI (je_v 2) je_int) (by simp; omega)) (fun z => by cases z) (fun _ => ?_)
      cases ps0 with
      | nil => cases h
      | cons p ps =>
      rw [cutsM]
      let gE : List Nat → Option (List (List Nat)) := fun c => if partsM c p then (cutsM es n ((p :: ps).filter fun q => !partsM c q)).map (c :: ·) else none
      show JB _ _ _ (Ret (aD (optC nm (es.findSome? gE))))
      let δi : Option Cell → Option Cell → DSt := fun c3 c4 => [some (.val (aD (eLs nm es))), some (.val (aD (.list ((p :: ps).map (dPr nm))))), some (.val (aI ((n + 1 : Nat) : Int))), c3, c4, none]
      refine jb_cons (M := fun δ' => (∀ e ∈ es, gE e = none) ∧ ∃ c3 c4, δ' = δi c3 c4) (js_for (I := fun i δ' => (∀ e ∈ es.take i, gE e = none) ∧ ∃ c3 c4, δ' = δi c3 c4) (ji_L (xs := es) (enc := eE nm) (je_v 0)) PassesOwn.never rfl ⟨(fun e he => by simp at he), none, none, rfl⟩ (fun i A δ' hA ⟨hi, c3, c4, e⟩ => ?_) (fun δ' ⟨hi, c3, c4, e⟩ => ⟨?_, c3, c4, e⟩)) fun δ' ⟨hi, c3, c4, e⟩ => ?_
      · subst e
        rw [List.getElem?_map] at hA
        cases hxe : es[i]? with
        | none => rw [hxe] at hA; cases hA
        | some ev =>
          rw [hxe] at hA
          cases hA
          refine ⟨_, _, jg_name 3 c_cutsf.nd, ?_⟩
          let δe : Option Cell → DSt := fun c4 => δi (some (.val (aD (eE nm ev)))) c4
          have last : ∀ {c4' : Option Cell}, gE ev = none → ((∀ e ∈ es.take (i + 1), gE e = none) ∧ ∃ c3 c4, δe c4' = δi c3 c4) := fun hn => ⟨fun e he => by
            rw [List.take_add_one, hxe] at he
            rcases List.mem_append.mp he with he | he
            · exact hi e he
            · have e2 : e = ev := by simpa using he
              rw [e2]
              exact hn, _, _, rfl⟩
          show JB _ _ (δe c4) _
          refine jb_cons (M := fun d => (∀ e ∈ es.take (i + 1), gE e = none) ∧ ∃ c3 c4, d = δi c3 c4) (js_if (p := partsM ev p) (δ1 := δe c4) (jt_val (je_call C1 hr (by omega) (ja_cons (je_v 3) (ja_cons (je_ixL (d := dPr nm p) (je_v 1) je_int (atI_nat (j := 0) rfl)) ja_nil)) ⟨ev, p, rfl, rfl⟩)) (fun hq => ?_) fun hq => jb_nil (last (if_neg (by rw [hq]; exact Bool.false_ne_true)))) fun δ' h => jb_nil h
          have hg : gE ev = (cutsM es n ((p :: ps).filter fun q => !partsM ev q)).map (ev :: ·) := if_pos hq
          refine jb_set (A := aD (optC nm (cutsM es n ((p :: ps).filter fun q => !partsM ev q)))) 4 c_cutsf.nd (je_call C0 hr (by omega) (ja_cons (je_v 0) (ja_cons (JN.dat (jn_f 5 (p :: ps) (dPr nm) (fun q => !partsM ev q) (dPr nm) (ji_L (je_v 1)) (blkOk_by (N := N_cutsf) (sc := defScope s_cutsf) (by decide +kernel)) (fun q hq _ _ _ _ _ => jt_not (jt_val (je_call C1 hr (by omega) (ja_cons (je_v 3) (ja_cons (je_v 5) ja_nil)) ⟨ev, q, rfl, rfl⟩))) (fun q hq _ _ _ _ _ _ => je_v 5) rfl c_cutsf.nd)) (ja_cons (JE.eq (je_sub (je_v 2) je_int) (d' := .int (n : Int)) (by simp)) ja_nil))) ⟨es, (p :: ps).filter fun q => !partsM ev q, by omega, rfl, rfl⟩) ?_
          cases hf : cutsM es n ((p :: ps).filter fun q => !partsM ev q) with
          | none =>
            refine jb_ifR (p := false) (JT.eq (jt_isnot (je_v 4)) (by rfl)) (fun z => by cases z) fun _ => jb_nil (last (c4' := some (.val (aD (optC nm none)))) (by rw [hg, hf]; rfl))
          | some r =>
            refine jb_ifR (p := true) (JT.eq (jt_isnot (je_v 4)) (by rfl)) (fun _ => ?_) fun z => by cases z
            rw [findSome_take hxe hi (b := ev :: r) (by rw [hg, hf]; rfl)]
            have hl := (cutsM_len hf).1
            refine jb_ret (δ1 := δe (some (.val (aD (optC nm (some r)))))) (A := aD (eEs nm (ev :: r))) (je_tup (ds := (ev :: r).map (eE nm)) ?_ (by rw [List.length_map, List.length_cons]; exact small (by omega))) (fun _ _ h => h)
            exact ja_cons (je_v 3) (ja_starE (.inr rfl) (je_v 4))
      · rw [List.length_map, List.take_length] at hi
        exact hi
      · subst e
        rw [List.findSome?_eq_none_iff.mpr hi]
        exact jb_ret je_non Ret.same
end
end J
/-! few_cuts, fewest_cuts. -/
namespace J
open PySem PySem.Spec L2
/-! ### there are such cuts -/
/-- some of these part all: then cuts_from finds as many or fewer -/
theorem cutsM_some {es : List (List Nat)} : ∀ {n : Nat} {ps : List (List Nat × List Nat)} (S : List (List Nat)), S.length ≤ n → (∀ e ∈ S, e ∈ es) → (∀ p ∈ ps, ∃ e ∈ S, partsM e p = true) → cutsM es n ps ≠ none
  | _, [], _, _, _, _ => by rw [cutsM]; exact fun z => nomatch z
  | 0, p :: ps, S, hl, _, hp => by
    obtain ⟨e, he, _⟩ := hp p List.mem_cons_self
    have : S = [] := List.eq_nil_of_length_eq_zero (by omega)
    rw [this] at he
    cases he
  | n + 1, p :: ps, S, hl, hs, hp => by
    obtain ⟨e, he, h1⟩ := hp p List.mem_cons_self
    have ih := cutsM_some (es := es) (n := n) (ps := (p :: ps).filter fun q => !partsM e q) (S.erase e) (by rw [List.length_erase_of_mem he]; omega) (fun x hx => hs x (List.mem_of_mem_erase hx)) fun q hq => by
      obtain ⟨q1, q2⟩ := List.mem_filter.mp hq
      obtain ⟨e', h2, h3⟩ := hp q q1
      refine ⟨e', (List.mem_erase_of_ne fun z => ?_).mpr h2, h3⟩
      rw [z] at h3
      rw [h3] at q2
      cases q2
    rw [cutsM]
    intro z
    have h2 := List.findSome?_eq_none_iff.mp z e (hs e he)
    rw [if_pos h1, Option.map_eq_none_iff] at h2
    exact ih h2
theorem asc_snoc {e : List Nat} {n : Nat} (h : Asc e) (hl : ∀ x ∈ e, x < n + 1) (hn : n ∈ e) : ∃ e', e = e' ++ [n] ∧ Asc e' ∧ ∀ x ∈ e', x < n := by
  have hne : e ≠ [] := fun z => by rw [z] at hn; cases hn
  obtain ⟨e', x, rfl⟩ : ∃ e' x, e = e' ++ [x] := ⟨e.dropLast, e.getLast hne, (List.dropLast_concat_getLast hne).symm⟩
  obtain ⟨h1, _, h3⟩ := List.pairwise_append.mp h
  have h4 : ∀ y ∈ e', y < x := fun y hy => of_decide_eq_true (h3 y hy x (by simp))
  have hx := hl x (by simp)
  have ex : x = n := by
    rcases List.mem_append.mp hn with z | z
    · have := h4 n z; omega
    · exact (List.mem_singleton.mp z).symm
  subst ex
  exact ⟨e', rfl, h1, h4⟩
/-- all cuts are there -/
theorem cutsN_mem : ∀ (n : Nat) (e : List Nat), CutOk (n + 1) e → e ∈ cutsN n
  | 0, e, h => by
    obtain ⟨e', rfl, h2, h3⟩ := asc_snoc (n := 0) h.asc h.lt h.zero
    have : e' = [] := by
      cases e' with
      | nil => rfl
      | cons a l => exact absurd (h3 a List.mem_cons_self) (by omega)
    rw [this]
    simp [cutsN]
  | n + 1, e, h => by
    show e ∈ cutsN n ++ (cutsN n).map (· ++ [n + 1])
    by_cases q : n + 1 ∈ e
    · obtain ⟨e', rfl, h2, h3⟩ := asc_snoc h.asc h.lt q
      refine List.mem_append_right _ (List.mem_map.mpr ⟨e', cutsN_mem n e' ⟨h2, ?_, h3⟩, rfl⟩)
      rcases List.mem_append.mp h.zero with z | z
      · exact z
      · exact absurd (List.mem_singleton.mp z) (by omega)
    · exact List.mem_append_left _ (cutsN_mem n e ⟨h.asc, h.zero, fun x hx => by
        have := h.lt x hx
        have : x ≠ n + 1 := fun z => q (by rw [← z]; exact hx)
        omega⟩)
/-- sets without a common member are parted by some cut -/
theorem parts_some {m : Nat} {a b : List Nat} (hm : 0 < m) (ha : ∀ x ∈ a, x < m) (hb : ∀ x ∈ b, x < m) (h : meetM a b = false) : ∃ e ∈ cutsN (m - 1), partsM e (a, b) = true := by
  obtain ⟨n, rfl⟩ : ∃ n, m = n + 1 := ⟨m - 1, by omega⟩
  have dj : ∀ x ∈ a, x ∉ b := fun x hx hxb => by
    have := List.any_eq_false.mp h x hx
    exact this (List.contains_iff_mem.mpr hxb)
  have mk : ∀ a : List Nat, (∀ x ∈ a, x < n + 1) → CutOk (n + 1) (setN (0 :: a)) := fun a ha => ⟨setB_asc linN _, (setB_mem linN 0 _).mpr List.mem_cons_self, fun x hx => by
    rcases List.mem_cons.mp ((setB_mem linN x _).mp hx) with z | z
    · omega
    · exact ha x z⟩
  have mem : ∀ (a : List Nat) x, x ∈ setN (0 :: a) ↔ x = 0 ∨ x ∈ a := fun a x => by
    rw [show x ∈ setN (0 :: a) ↔ x ∈ 0 :: a from setB_mem linN x _, List.mem_cons]
  by_cases q : 0 ∈ b
  · refine ⟨setN (0 :: b), cutsN_mem n _ (mk b hb), ?_⟩
    unfold partsM
    rw [Bool.or_eq_true]
    refine .inr ?_
    rw [Bool.and_eq_true, List.all_eq_true, Bool.not_eq_true', List.any_eq_false]
    exact ⟨fun x hx => List.contains_iff_mem.mpr ((mem b x).mpr (.inr hx)), fun x hx z => by
      rcases (mem b x).mp (List.contains_iff_mem.mp z) with e | e
      · rw [e] at hx
        exact dj 0 hx q
      · exact dj x hx e⟩
  · refine ⟨setN (0 :: a), cutsN_mem n _ (mk a ha), ?_⟩
    unfold partsM
    rw [Bool.or_eq_true]
    refine .inl ?_
    rw [Bool.and_eq_true, List.all_eq_true, Bool.not_eq_true', List.any_eq_false]
    exact ⟨fun x hx => List.contains_iff_mem.mpr ((mem a x).mpr (.inr hx)), fun x hx z => by
      rcases (mem a x).mp (List.contains_iff_mem.mp z) with e | e
      · rw [e] at hx
        exact q hx
      · exact dj x e hx⟩
theorem apart_mem {es : List (List Nat)} {p : List Nat × List Nat} (h : p ∈ apartM es) : p.1 ∈ es ∧ p.2 ∈ es ∧ meetM p.1 p.2 = false := by
  obtain ⟨x, hx, h2⟩ := List.mem_flatMap.mp h
  obtain ⟨o, ho, rfl⟩ := List.mem_map.mp h2
  obtain ⟨h3, h4⟩ := List.mem_filter.mp ho
  obtain ⟨a, i⟩ := x
  have h5 := List.mem_zipIdx_iff_getElem?.mp hx
  exact ⟨List.mem_of_getElem? h5, List.mem_of_mem_drop h3, by simpa using h4⟩
/-- the first that finds some -/
def leastM (es : List (List Nat)) (ps : List (List Nat × List Nat)) : List (List Nat) := ((List.range 17).findSome? fun n => cutsM es n ps).getD []
def sortC (l : List (List Nat)) : List (List Nat) := l.mergeSort fun a b => !ltL b a
def Ch.few (nm : Nat → Str) (c : Ch) (k : Nat) : Option (List (List Nat)) := if (mfamM (c.evs k) (k + 1)).isNone then some (sortC (leastM (cutsN (c.m - 1)) (hardM nm (apartM (c.evs k))))) else none
theorem all_parted (nm : Nat → Str) {c : Ch} (ok : c.Ok) (k : Nat) : cutsM (cutsN (c.m - 1)) 16 (hardM nm (apartM (c.evs k))) ≠ none := by
  refine cutsM_some (cutsN (c.m - 1)) ?_ (fun e he => he) fun p hp => ?_
  · rw [cutsN_len]
    have := ok.m5
    have : 2 ^ (c.m - 1) ≤ 2 ^ 4 := Nat.pow_le_pow_right (by decide) (by omega)
    omega
  · obtain ⟨h1, h2, h3⟩ := apart_mem ((hard_perm nm _).mem_iff.mp hp)
    exact parts_some ok.m1 (evs_ev ok p.1 h1).1.lt (evs_ev ok p.2 h2).1.lt h3
section
variable {P : Program} {w : World} {K : PySem.W.Frag} {mg : Str → Option Value} {base : Heap} {nm : Nat → Str} {f : Addr} {fd : FuncData} {k : Nat}
theorem sortC_map (H : NamX nm) (l : List (List Nat)) : srtD (l.map (eE nm)) = (sortC l).map (eE nm) := (PySem.W.sort_maps (r := fun a b => !ltL b a) (s := fun a b => !ltD b a) (eE nm) (fun a _ b _ => by rw [ltD, ltD_E H])).symm
abbrev s_few : Stmt := topS 35
abbrev N_few : List Str := ["chart", "long", "every", "pairs", "many", "found"]
theorem c_few : FnScope N_few ["chart", "long"] (defScope s_few) := ⟨rfl, rfl, rfl, by decide +kernel, rfl, by decide +kernel, by decide +kernel⟩
def R_few (nm : Nat → Str) (P0 : Addr) : RlM := fun M M' As Z => ∃ (v0 : V) (T : List Addr) (c : Ch) (k : Nat), P0 ∈ T ∧ c.Ok ∧ c.ti.length ≤ 20 ∧ k ≤ 2 ∧ M = mTb v0 T (aD (dCh nm c)) ∧ M' = M ∧ As = [aI (k : Int)] ∧ Z = some (aD (optC nm (c.few nm k)))
theorem f_few {C : Value} {P0 : Addr} (H : NamX nm) (F : Fun K "few_cuts" "few_cuts" s_few f fd) (C1 : Cal P w K mg base k "has_bits" (R_hasb nm)) (C2 : Cal P w K mg base k "all_cuts" (R_allc nm)) (C3 : CalM CX0 P w K mg base k "hardest_first" C (R_hard nm P0)) (C4 : Cal P w K mg base k "to_part" (R_topart nm)) (C5 : ∀ n, n ≤ 16 → Cal P w K mg base k "cuts_from" (R_cutsf nm n))
    (m1 : mg "tuple" = none) (m2 : mg "sorted" = none) : FnOk P w K mg base CX0 (k + 1) f fd ["chart", "long"] (spM C (R_few nm P0)) := by
  refine fn_jM F c_few (fun M M' As Z ⟨v0, T, c, k, _, _, _, _, e1, e2, e3, e4⟩ => ⟨by rw [e3]; rfl, by rw [e4]; exact (fun z => nomatch z), by rw [e2, e1]; exact mTb_prec⟩) fun cdv A outer s H0 E M M' As Z hr ⟨v0, T, c, n, hP, ok, tl, hn, e1, e2, e3, e4⟩ => ?_
  subst e2 e1 e3
  cases e4
  have hu := hr.un
  refine jb_ifR (p := !(mfamM (c.evs n) (n + 1)).isNone) (jt_not (jt_val (je_call C1 hr (Nat.le_refl _) (ja_cons (je_vT 0) (ja_cons (je_v 1) ja_nil)) ⟨c, n, ok, tl, hn, rfl, rfl⟩))) (fun h => ?_) fun h => ?_
  · have e0 : c.few nm n = none := by
      unfold Ch.few
      rw [if_neg]
      intro z
      rw [z] at h
      cases h
    rw [e0]
    exact jb_ret je_non (fun _ _ h => h) rfl
  have e0 : c.few nm n = some (sortC (leastM (cutsN (c.m - 1)) (hardM nm (apartM (c.evs n))))) := by
    unfold Ch.few
    rw [if_pos (by simpa using h)]
  rw [e0]
  obtain ⟨es, hes⟩ : ∃ es, es = cutsN (c.m - 1) := ⟨_, rfl⟩
  obtain ⟨hs, hhs⟩ : ∃ hs, hs = hardM nm (apartM (c.evs n)) := ⟨_, rfl⟩
  have h16 := all_parted nm ok n
  rw [← hes, ← hhs] at h16 ⊢
  let M0 : MV := mTb v0 T (aD (dCh nm c))
  refine jb_tupX (is := [2, 3, 4, 5]) (cs := [.val (aD (eLs nm es)), .val (aD (.list (hs.map (dPr nm)))), .val (aI 0), .val aN]) rfl (jxs_cons (jx_of (je_call C2 hr (Nat.le_refl _) (ja_cons (je_vT 0) ja_nil) ⟨c, ok, rfl, by rw [hes]⟩)) (jxs_cons (jx_of (je_callT (T := T) (M := M0) (A := aD (.list ((apartM (c.evs n)).map (dPr nm)))) 0 C3 hr (Nat.le_refl _) (ja_cons (je_call C4 hr (Nat.le_refl _) (ja_cons (je_vT 0) (ja_cons (je_v 1) ja_nil)) ⟨c, n, ok, tl, hn, rfl, rfl⟩) ja_nil) rfl lnd_Tb (fun v1 => ⟨v1, T, apartM (c.evs n), hP, rfl, rfl, rfl, by rw [hhs]⟩))) (jxs_cons (jx_of je_int) (jxs_cons (jx_of je_non) jxs_nil))))
    (gns_cons 2 c_few.nd (gns_cons 3 c_few.nd (gns_cons 4 c_few.nd (gns_cons 5 c_few.nd gns_nil)))) (by decide) rfl (show 4 ≤ 64 by decide) ?_
  let g : Nat → Option (List (List Nat)) := fun n => cutsM es n hs
  let r : Nat → Option (List (List Nat)) := fun i => if i = 0 then none else g (i - 1)
  let δi : Nat → Option (List (List Nat)) → DSt := fun i r => [some (.mut M0), some (.val (aI (n : Int))), some (.val (aD (eLs nm es))), some (.val (aD (.list (hs.map (dPr nm))))), some (.val (aI (i : Int))), some (.val (aD (optC nm r)))]
  refine jb_cons (M := fun d => ∃ i l, i ≤ 16 ∧ g i = some l ∧ (∀ j, j < i → g j = none) ∧ d = δi (i + 1) (some l)) (js_while (W := fun m d => ∃ i, i ≤ 17 ∧ m = 17 - i ∧ (∀ j, j + 1 < i → g j = none) ∧ d = δi i (r i)) PassesOwn.never (m0 := 17) ⟨0, by omega, rfl, fun j hj => by omega, rfl⟩ (fun m δ' ⟨i, hi, em, hj, e⟩ => ?_)) fun δ' ⟨i, l, hi, hg, hj, e⟩ => ?_
  · subst e
    refine ⟨δi i (r i), (r i).isNone, JT.eq (jt_is (je_v 5)) (by cases r i <;> rfl), fun h => ?_, fun h => ?_⟩
    · have hrn : r i = none := Option.isNone_iff_eq_none.mp h
      have hj2 : ∀ j, j < i → g j = none := fun j hji => by
        by_cases q : j + 1 < i
        · exact hj j q
        · have ej : j = i - 1 := by omega
          have e1 : r i = g (i - 1) := if_neg (by omega)
          rw [ej, ← e1]
          exact hrn
      have hi16 : i ≤ 16 := by
        by_cases q : i ≤ 16
        · exact q
        · exact absurd (hj2 16 (by omega)) h16
      refine jb_set (A := aD (optC nm (g i))) 5 c_few.nd (je_call (C5 i hi16) hr (Nat.le_refl _) (ja_cons (je_v 2) (ja_cons (je_v 3) (ja_cons (je_v 4) ja_nil))) ⟨es, hs, by omega, rfl, rfl⟩) ?_
      refine jb_augI (g := fun a b => a + b) (m := (i : Int)) (n := 1) 4 c_few.nd ip_add rfl je_int (jb_nil ⟨17 - (i + 1), by omega, i + 1, by omega, rfl, fun j hj => hj2 j (by omega), ?_⟩)
      rfl
    · cases hr2 : r i with
      | none => rw [hr2] at h; cases h
      | some l =>
        have i0 : i ≠ 0 := fun z => by
          have : r i = none := if_pos z
          rw [this] at hr2
          cases hr2
        have e1 : r i = g (i - 1) := if_neg i0
        exact ⟨i - 1, l, by omega, by rw [← e1]; exact hr2, fun j hj2 => hj j (by omega), by rw [show i - 1 + 1 = i from by omega]⟩
  · subst e
    have el : leastM es hs = l := by
      unfold leastM
      rw [findSome_take (l := List.range 17) (g := fun n => cutsM es n hs) (i := i) (x := i) (b := l) (List.getElem?_range (by omega)) (fun y hy => hj y (by
        have := List.mem_take_iff_getElem.mp hy
        obtain ⟨j, h1, h2⟩ := this
        rw [List.getElem_range] at h2
        omega)) hg]
      rfl
    rw [el]
    have hm := (cutsM_len hg).2
    rw [show optC nm (some (sortC l)) = .tuple (srtD (l.map (eE nm))) from by rw [sortC_map H]; rfl]
    refine jb_ret (je_tupleL m1 (je_sorted (ds := l.map (eE nm)) (srtD (l.map (eE nm))) (.inr rfl) (srt_E H l fun e he z => ?_) (srtD_perm _) (srtD_pw _) m2 rfl hr (by show (A.deeper _).units + 68 < cLine; omega) (je_v 5))) (fun _ _ h => h) rfl
    have hz := (cutsN_ok _ e (by rw [← hes]; exact hm e he)).zero
    rw [z] at hz
    cases hz
/-! ### fewest_cuts -/
abbrev s_fewest : Stmt := topS 36
abbrev N_fewest : List Str := ["chart", "long", "found"]
theorem c_fewest : FnScope N_fewest ["chart", "long"] (defScope s_fewest) := ⟨rfl, rfl, rfl, by decide +kernel, rfl, by decide +kernel, by decide +kernel⟩
def optI : Option Nat → PyData
  | some n => .int (n : Int)
  | none => .none
def R_fewest (nm : Nat → Str) (P0 : Addr) : RlM := fun M M' As Z => ∃ (v0 : V) (T : List Addr) (c : Ch) (k : Nat), P0 ∈ T ∧ c.Ok ∧ c.ti.length ≤ 20 ∧ k ≤ 2 ∧ M = mTb v0 T (aD (dCh nm c)) ∧ M' = M ∧ As = [aI (k : Int)] ∧ Z = some (aD (optI ((c.few nm k).map (·.length))))
theorem f_fewest {C : Value} {P0 : Addr} (F : Fun K "fewest_cuts" "fewest_cuts" s_fewest f fd) (C1 : CalM CX0 P w K mg base k "few_cuts" C (R_few nm P0)) (m1 : mg "len" = none) : FnOk P w K mg base CX0 (k + 1) f fd ["chart", "long"] (spM C (R_fewest nm P0)) := by
  refine fn_jM F c_fewest (fun M M' As Z ⟨v0, T, c, k, _, _, _, _, e1, e2, e3, e4⟩ => ⟨by rw [e3]; rfl, by rw [e4]; exact (fun z => nomatch z), by rw [e2, e1]; exact mTb_prec⟩) fun cdv A outer s H0 E M M' As Z hr ⟨v0, T, c, n, hP, ok, tl, hn, e1, e2, e3, e4⟩ => ?_
  subst e2 e1 e3
  cases e4
  let M0 : MV := mTb v0 T (aD (dCh nm c))
  refine jb_set (A := aD (optC nm (c.few nm n))) 2 c_fewest.nd (je_callT (T := T) (M := M0) (A := aD (dCh nm c)) 0 C1 hr (Nat.le_refl _) (ja_cons (je_vT 0) (ja_cons (je_v 1) ja_nil)) rfl lnd_Tb (fun v1 => ⟨v1, T, c, n, hP, ok, tl, hn, rfl, rfl, rfl, rfl⟩)) ?_
  cases hf : c.few nm n with
  | none => exact jb_ret (je_if (p := true) (JT.eq (jt_is (je_v 2)) rfl) (fun _ => je_non) fun z => by cases z) (fun _ _ h => h) rfl
  | some l =>
    refine jb_ret (je_if (p := false) (JT.eq (jt_is (je_v 2)) rfl) (fun z => by cases z) fun _ => JE.eq (je_lenT (ds := l.map (eE nm)) m1 (je_v 2)) ?_) (fun _ _ h => h) rfl
    rw [List.length_map]
    rfl
end
end J
/-! Defs that may raise; calls of them in a try. -/
namespace J
open PySem PySem.Spec L2
/-! ### a block that ends by raising -/
def tR (W : L2.St → Hp → Prop) (δ : DSt) (rk : DSt → Prop) : TS := fun _ σ H => ∃ F B, Env F B H σ δ ∧ ∀ σ' δ' B' H', rk δ' → Env F B' H' σ' δ' → Same B B' → W σ' H'
def JR (X : Cx) (sts : List Stmt) (δ : DSt) (W : L2.St → Hp → Prop) (rk : DSt → Prop) : Prop := PSs X sts (tR W δ rk)
def rAny (X : Cx) (sts : List Stmt) (W : L2.St → Hp → Prop) (rk : DSt → Prop) : TS := fun D σ H => ∃ δ, JR X sts δ W rk ∧ tR W δ rk D σ H
section
variable {X : Cx} {δ δ1 : DSt} {st : Stmt} {sts t u : List Stmt} {W : L2.St → Hp → Prop} {rk M : DSt → Prop} {Wx : WX} {C : Addr} {bmB : List Value} {B newId initId : String} {x : Str} {c : Expr} {p pos pos' : Pos}
theorem pr_any : PSs X sts (rAny X sts W rk) := ⟨fun pins s σ H D I ⟨δ, j, q⟩ => j.run pins s σ H D I q⟩
theorem jr_cons (h1 : JS X st δ { nx := M }) (h2 : ∀ δ', M δ' → JR X sts δ' W rk) : JR X (st :: sts) δ W rk :=
  PSs.imp (pss_cons h1 pr_any) fun D σ H ⟨F, B, E, q⟩ => ⟨F, B, E, fun δ' σ' B' H' m E' s => ⟨δ', h2 δ' m, F, B', E', fun a b c d e f g => q a b c d e f (s.trans g)⟩, fun _ _ _ _ z => z.elim, fun _ _ _ _ z => z.elim, fun _ _ _ _ z => z.elim⟩
theorem jr_ifR (hc : JT X c δ δ1 true) (h1 : JR X t δ1 W rk) : JR X (.If c t [] pos :: sts) δ W rk :=
  PSs.imp (pss_cons (ps_if hc h1 pss_nil) (pb_any)) fun D σ H ⟨F, B, E, q⟩ => ⟨F, B, E, fun B' H' E' s => ⟨F, B', E', fun a b c d e f g => q a b c d e f (s.trans g)⟩⟩
/-- X(), X an own exception class without own __init__ -/
theorem pmk_own0 (F : PySem.ExcBaseFacts B newId initId bmB) (q : PySem.W.excIn X.K C bmB newId = true) (gC : X.mg x = some (.ref C)) (kC : PySem.W.keepIn X.K (.ref C) = true) (r : Raises X (.ref C)) (hg : Gl X x)
    (hdb : (x == ("__debug__" : Str)) = false := by decide) : PMk X (.Call (.Name x p) [] [] pos) (fun _ H Q => Q (.ref C) none H) := by
  intro pins s σ H Q I h
  refine wpAny_Call_Name_kw (ld_glob I hg gC ?_ hdb)
  refine PySem.W.callWith_K0 I.kIn kC ?_
  show wpAny _ _ (call (.ref C) []) _ _ _
  obtain ⟨bm, N, nm, qn, bs, hdct, sn, sub, ab, col, dd, k0, k1, k2, k3, k5, mN, hC, hN, hni, T⟩ := exc_obj I.kIn q
  exact wpAny_call_exc_subT F T hC hN hni (fun h' e hm => mk_of I hm r h (I.hok.gone hm.new)) (Nat.zero_le _)
/-- raise X() -/
theorem jr_raise (hc : X.calm = true) (tk : Takes X Wx) (F : PySem.ExcBaseFacts B newId initId bmB) (q : PySem.W.excIn X.K C bmB newId = true) (gC : X.mg x = some (.ref C)) (kC : PySem.W.keepIn X.K (.ref C) = true) (r : Raises X (.ref C)) (k : rk δ) (hg : Gl X x := by rfl)
    (hdb : (x == ("__debug__" : Str)) = false := by decide) : JR X [.Raise (some (.Call (.Name x p) [] [] pos)) none pos'] δ (fun σ H => Wx (.ref C) none σ H) rk :=
  PSs.imp (pss_one (ps_raise hc tk (pmk_own0 F q gC kC r hg hdb))) fun D σ H ⟨F, B, E, q⟩ => q σ δ B H k E (Same.refl B)
end
/-! ### a def that may raise -/
section
variable {P : Program} {w : World} {K : PySem.W.Frag} {mg : Str → Option Value} {base : Heap}
theorem fn_jMX {x qual : Str} {st : Stmt} {f : Addr} {fd : FuncData} {N ps : List Str} {k : Nat} {C : Value} {R : RlM} (F : Fun K x qual st f fd) (S : FnScope N ps (defScope st)) (hl : ∀ M M' As Z, R M M' As Z → As.length + 1 = ps.length ∧ ∀ B H v RR, M.p B H v RR → Prec M' v RR)
    (body : ∀ (cdv : Value) (A : Around) (outer : List PySem.Env) (s : Shared) (H : Hp) (E : XK) (M M' : MV) (As : List AV) (Z : AV), Room k (A.deeper (PyProof.Rows.envOfC qual (defScope st) s.heap.objs.size f cdv)) → R M M' As (some Z) →
      JB (cxOf (L2.CX P w) P w K mg base N qual (defScope st) f cdv A outer s H E) (defBody st) (d0M N M As) (RetM M' Z))
    (bodyX : ∀ (cdv : Value) (A : Around) (outer : List PySem.Env) (s : Shared) (H : Hp) (E : XK) (M M' : MV) (As : List AV), Room k (A.deeper (PyProof.Rows.envOfC qual (defScope st) s.heap.objs.size f cdv)) → R M M' As none →
      Takes (cxOf (L2.CX P w) P w K mg base N qual (defScope st) f cdv A outer s H E) (fun cls d _ H => E cls d H) →
      JR (cxOf (L2.CX P w) P w K mg base N qual (defScope st) f cdv A outer s H E) (defBody st) (d0M N M As) (fun σ H => E C none H) (fun δ => δ[0]? = some (some (.mut M')))) : FnOk P w K mg base (L2.CX P w) (k + 1) f fd ps (spM C R) := by
  refine F.okX S (fun vs H Q E ⟨B, M, M', As, Z, v0, vr, RR, e, _, _, _, h, r, _⟩ => by rw [e, List.length_cons, ← h.length]; exact (hl M M' As Z r).1) fun cdv A outer s H vs Q E hr hsp => ?_
  obtain ⟨B, M, M', As, Z, v0, vr, RR, e, sB, hM, ho, h, r, q, qx⟩ := hsp
  subst e
  have pr := (hl M M' As Z r).2 _ _ _ _ hM
  cases Z with
  | some Z' =>
    refine ⟨_, body cdv A outer s H E M M' As Z' hr r, restR B H RR, B, env_startM sB hM ho h, fun δ' σ' B' H' hn E' s' => ?_, fun A' v B' H' hr' ⟨σ', δ', hk, E'⟩ s' a' => ?_, fun _ _ _ _ z => z.elim, fun _ _ _ _ z => z.elim⟩
    · obtain ⟨h1, h2⟩ := end_own E' hn.1 pr
      exact q .non B' H' Z' rfl s' E'.bh (fun a o z1 z2 z3 => E'.fr a o (restR_of z1 z2 z3)) h1 h2 (hn.2 B')
    · obtain ⟨h1, h2⟩ := end_own E' hk pr
      exact q v B' H' Z' rfl s' E'.bh (fun a o z1 z2 z3 => E'.fr a o (restR_of z1 z2 z3)) h1 h2 (hr' B' v a')
  | none =>
    refine ⟨_, bodyX cdv A outer s H E M M' As hr r (takes_of rfl rfl rfl rfl), restR B H RR, B, env_startM sB hM ho h, fun σ' δ' B' H' hk E' s' => ?_⟩
    obtain ⟨h1, h2⟩ := end_own E' hk pr
    exact qx none B' H' rfl s' E'.bh (fun a o z1 z2 z3 => E'.fr a o (restR_of z1 z2 z3)) h1 h2
end
/-! ### the call in a try -/
/-- anything but None -/
def aNN : AV := ⟨fun _ v => v ≠ .non, fun _ h => h⟩
section
variable {X : Cx} {F B B' H H' : Hp} {δ δ1 δ2 : DSt} {A : AV} {e : Expr} {es : List Expr} {pos p p0 : Pos} {As : List AV} {M : MV} {O : Out} {sts : List Stmt}
theorem je_isNN {a : Expr} (ha : JE X a δ δ1 aNN) {j : Nat} {p2 : Pos} : JE X (.Compare a [.Is] [.Constant .none j p2] pos) δ δ1 (aB false) := by
  refine je_cmp (C := aN) op_isN (fun B H x y Q _ h1 h2 q => ⟨Dd.non_eq h2, ?_⟩) ha je_non
  rw [show decide (x = V.non) = false from decide_eq_false h1]
  exact q _ B H (.refl B H) (.bl _)
theorem je_isnotNN {a : Expr} (ha : JE X a δ δ1 aNN) {j : Nat} {p2 : Pos} : JE X (.Compare a [.IsNot] [.Constant .none j p2] pos) δ δ1 (aB true) := by
  refine je_cmp (C := aN) op_notN (fun B H x y Q _ h1 h2 q => ⟨Dd.non_eq h2, ?_⟩) ha je_non
  rw [show decide (x = V.non) = false from decide_eq_false h1]
  exact q _ B H (.refl B H) (.bl _)
theorem Env.setNone (E : Env F B H σ δ) (i : Nat) : Env F B H (σ.set i none) (δ.set i none) := E.wipe [i]
/-- try: y = f(e, ..) / except X as n: z = n -/
theorem js_tryT {x y z n xn : Str} {k j : Nat} {CA : Addr} {R : RlM} {T : List Addr} {Z : Option AV} {np nr py pz spos ps pos' tpos : Pos} (m iy iz ie : Nat) (Cl : CalM (L2.CX X.prog X.w) X.prog X.w X.K X.mg X.base k x (.ref CA) R) (hr : Room j X.A) (hk : k ≤ j)
    (ha : ∀ pn xe, JA (X.tr pn xe) (e :: es) δ δ1 (A :: As)) (h1 : δ1[m]? = some (some (.mut M))) (L : Lnd M T) (h : ∀ v0, R (mTb v0 T A) (mTb v0 T A) As Z) (hex : PySem.W.exmOne X.K (.ref CA) (.ref CA) = some true) (gx : X.mg xn = some (.ref CA))
    (k1 : ∀ Z', Z = some Z' → O.nx (δ1.set iy (some (.val Z')))) (k2 : Z = none → O.nx (((δ1.set ie (some (.val aNN))).set iz (some (.val aNN))).set ie none)) (hN : X.N.Nodup) (hlen : ie < δ1.length)
    (hs0 : X.stack = X.env :: X.outer) (hf0 : X.env.frame = some X.env.locals) (hne : ie ≠ iz)
    (hiy : X.N[iy]? = some y) (hiz : X.N[iz]? = some z) (hie : X.N[ie]? = some n) (hly : X.env.scope.names.lookup y = some .local) (hlz : X.env.scope.names.lookup z = some .local) (hln : X.env.kindOf n = some .local) (gxn : Gl X xn) (hxn : (xn == ("__debug__" : Str)) = false)
    (hnd : (n == ("__debug__" : Str)) = false) (hncd : (n == ("__classdict__" : Str)) = false) (hvn : Vis X.env.scope n)
    (hsy : swapsWith (.Call (.Name x p) (e :: es) [] pos) (some (.Name y py)) spos.line X.env = pure false) (hsz : swapsWith (.Name n nr) (some (.Name z pz)) ps.line X.env = pure false)
    (hg : Gl X x) (hdb : (x == ("__debug__" : Str)) = false := by decide) (hst : starEach (e :: es) X.env = (false, eval e X.env) :: starEach es X.env := by rfl) (hpl : (backTo pos (starEach es X.env)).any (·.1) = false := by rfl) :
    JS X (.Try [.Assign [.Name y py] (.Call (.Name x p) (e :: es) [] pos) spos] [.ExceptHandler (some (.Name xn np)) (some n) [.Assign [.Name z pz] (.Name n nr) ps] pos'] [] [] tpos) δ O := by
  obtain ⟨f, fd, ps, g1, g2, g3, g4⟩ := Cl.ex
  have hie2 : (X.suite (0 : Addr) []).N[ie]? = some n := hie
  refine PS.imp (ps_try_as (i := ie) (c := .ref CA) (Wout := fun _ _ _ _ => False) (tb := fun W D σ H => tCallS (spM (.ref CA) R) (WE W) (tA δ δ1 (A :: As)) σ H fun v H' => D.nx (σ.set iy (some v)) H') (ts := fun _ _ _ D σ H => tVar ie σ H fun v H' => D.nx (σ.set iz (some v)) H') hs0 hf0 hN hie hln ⟨gxn, hxn, .inl gx⟩ LamX.takes0
    (fun W pn xe tk _ => pss_one (ps_set (X := X.tr pn xe) hN hiy (.inl hly) (pe_callS (X := X.tr pn xe) g1 (hr.mono hk) hg g2 g3 g4 (fun σ => passAt tk σ) (ha pn xe) hdb hst hpl) hsy (.inr hly)))
    (fun a oe cls d pn _ _ => pss_one (ps_set (X := X.suite a ((a, oe) :: pn)) hN hiz (.inl hlz) (pe_var (X := X.suite a ((a, oe) :: pn)) hie hvn hnd hncd) hsz (.inr hlz)))) fun D σ H ⟨F, B, E, n, _, _, _⟩ => ⟨F, B, E, fun vs B1 H1 E1 s1 a1 => ?_⟩
  have E2 := E1.tups
  obtain ⟨t1, t2⟩ := tups_same E1.bh
  obtain ⟨Rg, e'⟩ := id E2
  obtain ⟨v, z1, z2⟩ := e'.sl m _ h1
  obtain ⟨L1, L2', L3⟩ := L _ _ _ _ z2
  cases a1 with
  | @cons _ v0 _ vr r t =>
    have back : ∀ {B2 H2}, Same (tups B1 H1) B2 → Same B2 H2 → KeepR (tups B1 H1) H1 T B2 H2 → (mTb v0 T A).p B2 H2 v0 T → Own1 B2 H2 T → Env F B2 H2 σ δ1 := fun {B2 H2} s2 s3 k2 m2 o2 => by
      have E3 := e'.stepR (M' := M) h1 z1 s2 s3 k2 L1 o2 (L3 B2 H2 s2 (fun a ha na => by
        obtain ⟨q1, q2, q3⟩ := e'.rg m a ha
        cases q : H1 a with
        | none => exact absurd q q2
        | some x => exact (k2 a x q q1 na).1) m2.2.2.2)
      rw [set_same h1] at E3
      exact E3
    refine ⟨tups B1 H1, mTb v0 T A, mTb v0 T A, As, Z, v0, vr, T, rfl, ⟨t2, fun a xs => tupB_of⟩, ⟨rfl, rfl, A.mono t1 r, L2'⟩, fun a ha => ⟨(e'.rg m a (L1 a ha)).1, (e'.rg m a (L1 a ha)).2.1, fun xs => e'.rt m a xs (L1 a ha)⟩, t.imp fun A v => A.mono t1, h v0, fun u B2 H2 Z' eZ s2 s3 k2 m2 o2 zz => ?_, fun d B2 H2 eZ s2 s3 k2' m2 o2 => ?_⟩
    · exact n _ _ B2 H2 (k1 Z' eZ) ((back s2 s3 k2 m2 o2).set iy zz) ((s1.trans t1).trans s2)
    · refine ⟨true, hex, fun _ a na => ⟨.ref a, ?_, ?_⟩, fun z => by cases z⟩
      · have hl : ie < σ.length := by
          rw [E1.len]
          exact hlen
        rw [List.getElem?_set_self hl]
      · exact n _ _ B2 H2 (k2 eZ) ((((back s2 s3 k2' m2 o2).set ie (A := aNN) (v := .ref a) (fun z => nomatch z)).set iz (A := aNN) (v := .ref a) (fun z => nomatch z)).setNone ie) ((s1.trans t1).trans s2)
end
end J
/-! some_cuts. -/
namespace J
open PySem PySem.Spec L2
def Ch.some (nm : Nat → Str) (c : Ch) (k : Nat) : Option (List (List Nat)) := (c.few nm k).map fun l => if l.length = 0 then [[0]] else l
/-- the facts of the exception class NoReader at CA -/
structure ExcF (K : PySem.W.Frag) (mg : Str → Option Value) (CA : Addr) : Prop where
  q : PySem.W.excIn K CA [.type "ValueError", .type "Exception", .type "BaseException", .type "object"] "ValueError.__new__" = true
  gC : mg "NoReader" = some (.ref CA)
  kC : PySem.W.keepIn K (.ref CA) = true
  b : PySem.W.subIn K (.ref CA) (.type "BaseException") = some true
  t : PySem.W.typeIn K (.ref CA) = some (.type "type")
  m : PySem.W.exmOne K (.ref CA) (.ref CA) = some true
section
variable {P : Program} {w : World} {K : PySem.W.Frag} {mg : Str → Option Value} {base : Heap} {nm : Nat → Str} {f : Addr} {fd : FuncData} {k : Nat}
abbrev s_some : Stmt := topS 37
abbrev N_some : List Str := ["chart", "long", "found"]
theorem c_some : FnScope N_some ["chart", "long"] (defScope s_some) := ⟨rfl, rfl, rfl, by decide +kernel, rfl, by decide +kernel, by decide +kernel⟩
def R_some (nm : Nat → Str) (P0 : Addr) : RlM := fun M M' As Z => ∃ (v0 : V) (T : List Addr) (c : Ch) (k : Nat), P0 ∈ T ∧ c.Ok ∧ c.ti.length ≤ 20 ∧ k ≤ 2 ∧ M = mTb v0 T (aD (dCh nm c)) ∧ M' = M ∧ As = [aI (k : Int)] ∧ Z = (c.some nm k).map fun l => aD (eEs nm l)
theorem f_some {P0 CA : Addr} {C' : Value} (F : Fun K "some_cuts" "some_cuts" s_some f fd) (X : ExcF K mg CA) (C1 : CalM CX0 P w K mg base k "few_cuts" C' (R_few nm P0)) (C2 : Cal P w K mg base k "names" (R_names nm)) (m1 : mg "len" = none) : FnOk P w K mg base (L2.CX P w) (k + 1) f fd ["chart", "long"] (spM (.ref CA) (R_some nm P0)) := by
  refine fn_jMX F c_some (fun M M' As Z ⟨v0, T, c, k, _, _, _, _, e1, e2, e3, e4⟩ => ⟨by rw [e3]; rfl, by rw [e2, e1]; exact mTb_prec⟩) (fun cdv A outer s H0 E M M' As Z hr ⟨v0, T, c, n, hP, ok, tl, hn, e1, e2, e3, e4⟩ => ?_) fun cdv A outer s H0 E M M' As hr ⟨v0, T, c, n, hP, ok, tl, hn, e1, e2, e3, e4⟩ tk => ?_
  · subst e2 e1 e3
    let M0 : MV := mTb v0 T (aD (dCh nm c))
    refine jb_set (A := aD (optC nm (c.few nm n))) 2 c_some.nd (je_callT (T := T) (M := M0) (A := aD (dCh nm c)) 0 C1 hr (Nat.le_refl _) (ja_cons (je_vT 0) (ja_cons (je_v 1) ja_nil)) rfl lnd_Tb (fun v1 => ⟨v1, T, c, n, hP, ok, tl, hn, rfl, rfl, rfl, rfl⟩)) ?_
    cases hf : c.few nm n with
    | none =>
      unfold Ch.some at e4
      rw [hf] at e4
      cases e4
    | some l =>
      unfold Ch.some at e4
      rw [hf] at e4
      cases e4
      refine jb_ifR (p := false) (JT.eq (jt_is (je_v 2)) rfl) (fun z => by cases z) fun _ => ?_
      have m1' := ok.m1
      refine jb_ret (δ1 := [some (.mut M0), some (.val (aI (n : Int))), some (.val (aD (optC nm (some l))))]) (A := aD (eEs nm (if l.length = 0 then [[0]] else l))) (je_if (δ1 := [some (.mut M0), some (.val (aI (n : Int))), some (.val (aD (optC nm (some l))))]) (p := decide (0 < l.length)) (JT.eq (jt_cmp op_gt rop_B0 (je_lenT (ds := l.map (eE nm)) m1 (je_v 2)) je_int) (by rw [List.length_map]; exact decide_eq_decide.mpr (by omega))) (fun h => ?_) fun h => ?_) (fun _ _ h => h) rfl
      · rw [if_neg (by have := of_decide_eq_true h; omega)]
        exact je_v 2
      · rw [if_pos (by have := of_decide_eq_false h; omega)]
        refine je_tup (ds := [eE nm [0]]) (ja_cons (JE.eq (je_slT (ds := (List.range c.m).map (eN nm)) (je_call C2 hr (Nat.le_refl _) (ja_cons (je_vT 0) ja_nil) ⟨c, rfl, rfl⟩) jo_none (jo_some je_int)) ?_) ja_nil)
        show PyData.tuple (cutD _ none (some (1 : Int))) = _
        obtain ⟨m, hm⟩ : ∃ m, c.m = m + 1 := ⟨c.m - 1, by omega⟩
        rw [show ((1 : Int)) = ((1 : Nat) : Int) from rfl, cutD_to, hm, List.range_succ_eq_map]
        rfl
  · subst e2 e1 e3
    let M0 : MV := mTb v0 T (aD (dCh nm c))
    have hf : c.few nm n = none := by
      unfold Ch.some at e4
      cases hf : c.few nm n with
      | none => rfl
      | some l =>
        rw [hf] at e4
        cases e4
    refine jr_cons (M := fun d => d = [some (.mut M0), some (.val (aI (n : Int))), some (.val aN)]) (js_set (A := aN) 2 (JE.eq (je_callT (T := T) (M := M0) (A := aD (dCh nm c)) 0 C1 hr (Nat.le_refl _) (ja_cons (je_vT 0) (ja_cons (je_v 1) ja_nil)) rfl lnd_Tb (fun v1 => ⟨v1, T, c, n, hP, ok, tl, hn, rfl, rfl, rfl, rfl⟩)) (by rw [hf]; rfl)) rfl c_some.nd) fun δ' e => ?_
    subst e
    exact jr_ifR (JT.eq (jt_is (je_v 2)) rfl) (jr_raise rfl tk PySem.F.excBase_ValueError X.q X.gC X.kC (raises_own X.b X.t) rfl)
end
end J
/-! words_in. -/
namespace J
open PySem PySem.Spec L2
/-! ### sets of ints -/
def ltI (a b : Int) : Bool := decide (a < b)
theorem linI : Lin ltI := ⟨fun x y h1 h2 => by
  have := of_decide_eq_false h1
  have := of_decide_eq_false h2
  omega, fun x y h => by
  have := of_decide_eq_true h
  exact decide_eq_false (by omega), fun x y z h1 h2 => by
  have := of_decide_eq_true h1
  have := of_decide_eq_true h2
  exact decide_eq_true (by omega)⟩
def setI (xs : List Int) : List Int := setB ltI xs
theorem setIs_I (xs : List Int) : SetIs (xs.map PyData.int) ((setI xs).map PyData.int) := setIs_of linI (fun a b h => by injection h) (fun a b => by rw [ltD]; rfl) xs
theorem srt_I (xs : List Int) : SrtOk (xs.map PyData.int) := ⟨fun d hd e he => by
  obtain ⟨a, _, rfl⟩ := List.mem_map.mp hd
  obtain ⟨b, _, rfl⟩ := List.mem_map.mp he
  rfl, .inr fun d hd => by
  obtain ⟨a, _, rfl⟩ := List.mem_map.mp hd
  exact ⟨(fun z => nomatch z), fun xs z => nomatch z⟩, fun d hd => by
  obtain ⟨a, _, rfl⟩ := List.mem_map.mp hd
  rfl⟩
theorem setof_IT (xs : List Int) (hl : xs.length < 4000) : R_setof [aD (dW xs)] (aD (dW (setI xs))) :=
  ⟨_, _, _, .inl rfl, rfl, rfl, .inr (.inl ⟨xs, rfl⟩), srt_I xs, by rw [List.length_map]; exact hl, setIs_I xs⟩
/-- words of bits alone -/
def Ch.Bit (c : Ch) : Prop := (∀ i, ∀ v ∈ c.wd i, v = 0 ∨ v = 1) ∧ c.sz.length ≤ 16
theorem by_bit (c : Ch) {cs : List (List Nat)} (h : cs.length ≤ 16) : (c.by cs).Bit := ⟨fun i v hv => by
  obtain ⟨e, _, rfl⟩ := List.mem_map.mp hv
  cases e.contains i
  · exact .inr rfl
  · exact .inl rfl, by show (cs.map _).length ≤ 16; rw [List.length_map]; exact h⟩
def wordsF (vals : List (List Int)) : List (List Int) := vals.foldl (fun found vs => found.flatMap fun w => vs.map fun v => w ++ [v]) [[]]
theorem wordsF_snoc (vals : List (List Int)) (vs : List Int) : wordsF (vals ++ [vs]) = (wordsF vals).flatMap fun w => vs.map fun v => w ++ [v] := by
  unfold wordsF
  rw [List.foldl_append]
  rfl
/-- at one field -/
def Ch.col (c : Ch) (e : List Nat) (j : Nat) : List Int := e.map fun i => (c.wd i).getD j 0
def Ch.vals (c : Ch) (e : List Nat) : List (List Int) := (List.range c.sz.length).map fun j => setI (c.col e j)
def Ch.words (c : Ch) (e : List Nat) : List (List Int) := wordsF (c.vals e)
theorem getD_bit {xs : List Int} {j : Nat} (h : ∀ v ∈ xs, v = 0 ∨ v = 1) : xs.getD j 0 = 0 ∨ xs.getD j 0 = 1 := by
  rw [List.getD_eq_getElem?_getD]
  cases q : xs[j]? with
  | none => exact .inl rfl
  | some v => exact h v (List.mem_of_getElem? q)
theorem vals_len {c : Ch} (b : c.Bit) (e : List Nat) : ∀ vs ∈ c.vals e, vs.length ≤ 2 := fun vs h => by
  obtain ⟨j, _, rfl⟩ := List.mem_map.mp h
  refine List.Nodup.length_le_of_subset (l₂ := [0, 1]) (asc_nodup linI (setB_asc linI (c.col e j))) fun x hx => ?_
  obtain ⟨i, _, rfl⟩ := List.mem_map.mp ((setB_mem linI x _).mp hx)
  rcases getD_bit (j := j) (b.1 i) with h | h
  · rw [h]; simp
  · rw [h]; simp
theorem wordsF_len : ∀ (n : Nat) (vals : List (List Int)), vals.length = n → (∀ vs ∈ vals, vs.length ≤ 2) → (wordsF vals).length ≤ 2 ^ n ∧ ∀ w ∈ wordsF vals, w.length = n
  | 0, vals, h, _ => by
    rw [List.length_eq_zero_iff.mp h]
    exact ⟨Nat.le_refl _, fun w hw => by rw [List.mem_singleton.mp hw]; rfl⟩
  | n + 1, vals, h, hv => by
    obtain ⟨l, x, rfl⟩ : ∃ l x, vals = l ++ [x] := ⟨vals.dropLast, vals.getLast (fun z => by rw [z] at h; cases h), (List.dropLast_concat_getLast _).symm⟩
    have hl : l.length = n := by simpa using h
    obtain ⟨h1, h2⟩ := wordsF_len n l hl fun vs hvs => hv vs (List.mem_append_left _ hvs)
    have hx := hv x (by simp)
    rw [wordsF_snoc]
    refine ⟨?_, fun w hw => ?_⟩
    · have : ∀ ws : List (List Int), (ws.flatMap fun w => x.map fun v => w ++ [v]).length ≤ 2 * ws.length := fun ws => by
        induction ws with
        | nil => simp
        | cons a ws ih =>
          rw [List.flatMap_cons, List.length_append, List.length_map, List.length_cons]
          omega
      have := this (wordsF l)
      rw [Nat.pow_succ]
      omega
    · obtain ⟨w', hw', h3⟩ := List.mem_flatMap.mp hw
      obtain ⟨v, _, rfl⟩ := List.mem_map.mp h3
      rw [List.length_append, h2 w' hw']
      rfl
theorem words_len {c : Ch} (b : c.Bit) (e : List Nat) : (c.words e).length ≤ 65536 ∧ ∀ w ∈ c.words e, w.length = c.sz.length := by
  have h := wordsF_len c.sz.length (c.vals e) (by unfold Ch.vals; rw [List.length_map, List.length_range]) (vals_len b e)
  have : 2 ^ c.sz.length ≤ 2 ^ 16 := Nat.pow_le_pow_right (by decide) b.2
  exact ⟨by unfold Ch.words; omega, h.2⟩
section
variable {P : Program} {w : World} {K : PySem.W.Frag} {mg : Str → Option Value} {base : Heap} {nm : Nat → Str} {f : Addr} {fd : FuncData} {k : Nat}
/-- the words by names -/
def toldM (nm : Nat → Str) (c : Ch) : List (L2.Key × PyData) := (List.range c.m).map fun i => (kN nm i, dW (c.wd i))
theorem words_out (ws : List (List Int)) (vs : List Int) : ws.flatMap (out2 (fun _ => vs) (fun _ _ => true) fun w v => dW (w ++ [v])) = (ws.flatMap fun w => vs.map fun v => w ++ [v]).map dW := by
  rw [List.map_flatMap]
  refine congrArg (fun g => ws.flatMap g) (funext fun w => ?_)
  show (vs.filter fun _ => true).map _ = (vs.map _).map _
  rw [List.filter_eq_self.mpr fun _ _ => rfl, List.map_map]
  rfl
abbrev s_words : Stmt := topS 40
abbrev N_words : List Str := ["told", "some", "found", "rows", "name", "row", "values", "word", "value"]
theorem c_words : FnScope N_words ["told", "some"] (defScope s_words) := ⟨rfl, rfl, rfl, by decide +kernel, rfl, by decide +kernel, by decide +kernel⟩
def R_words (nm : Nat → Str) : Rl := fun As Z => ∃ (c : Ch) (e : List Nat), c.Ok ∧ c.Bit ∧ Ev c.m e ∧ e.length ≤ 6 ∧ As = [aMK (toldM nm c), aD (eE nm e)] ∧ Z = aD (.list ((c.words e).map dW))
theorem f_words (H : NamX nm) (F : Fun K "words_in" "words_in" s_words f fd) (C1 : Cal P w K mg base k "set_of" R_setof) (m1 : mg "zip" = none) : FnOk P w K mg base CX0 (k + 1) f fd ["told", "some"] (spJ (R_words nm)) := by
  refine fn_j F c_words (fun As Z ⟨i, _, _, _, _, _, e, _⟩ => by rw [e]; rfl) fun cdv A0 outer s H0 E As Z hr ⟨c, e, ok, bt, ev, el, e1, e2⟩ => ?_
  subst e1 e2
  have hu := hr.un
  have hz := ok.z
  let rows : List (List PyData) := e.map fun i => (c.wd i).map PyData.int
  refine jb_parX (c1 := .val (aD (.list (([[]] : List (List Int)).map dW)))) (c2 := .val (aD (.list (rows.map .tuple)))) 2 3 rfl c_words.nd (jxs_cons (jx_of (je_lst (ds := [dW []]) (ja_cons (je_tup (ds := []) ja_nil) ja_nil))) (jxs_cons (jx_of (JE.eq (JN.dat (jn_m 4 e (eN nm) (fun i => dW (c.wd i)) (ji_T (je_v 1)) (blkOk_by (N := N_words) (sc := defScope s_words) (by decide +kernel)) (fun i hi _ _ _ _ _ => je_dgetK (k := kN nm i) (by show (A0.deeper _).units + 1 < cLine; omega) (je_v 0) (je_v 4) (lk_range H (ev.lt i hi) _)) rfl c_words.nd)) (by rw [List.map_map]; rfl))) jxs_nil)) ?_
  let δi : Nat → Option Cell → Option Cell → DSt := fun i c5 c6 => [some (.val (aMK (toldM nm c))), some (.val (aD (eE nm e))), some (.val (aD (.list ((wordsF ((c.vals e).take i)).map dW)))), some (.val (aD (.list (rows.map .tuple)))), none, c5, c6, none, none]
  have vl : (c.vals e).length = c.sz.length := by unfold Ch.vals; rw [List.length_map, List.length_range]
  refine jb_cons (M := fun δ' => ∃ c5 c6, δ' = δi c.sz.length c5 c6) (js_for (I := fun i δ' => i ≤ c.sz.length ∧ ∃ c5 c6, δ' = δi i c5 c6) (ji_zipS (rows := rows) (n := c.sz.length) m1 (je_v 3) (fun r hr => ?_) (fun z => ?_) (by show (e.map _).length ≤ 6; rw [List.length_map]; exact el) (by omega)) PassesOwn.never rfl ⟨Nat.zero_le _, none, none, rfl⟩ (fun i A δ' hA ⟨hi, c5, c6, e0⟩ => ?_) (fun δ' ⟨_, c5, c6, e0⟩ => ⟨c5, c6, ?_⟩)) fun δ' ⟨c5, c6, e0⟩ => ?_
  · obtain ⟨i, _, rfl⟩ := List.mem_map.mp hr
    rw [List.length_map, ok.w]
  · exact ev.ne (List.map_eq_nil_iff.mp z)
  · subst e0
    have hi2 : i < c.sz.length := by
      have := (List.getElem?_eq_some_iff.mp hA).1
      unfold cols at this
      rw [List.length_map, List.length_map, List.length_range] at this
      exact this
    have hc : (cols rows c.sz.length)[i]? = some (rows.map fun r => r.getD i .none) := by
      unfold cols
      rw [List.getElem?_map, List.getElem?_range hi2]
      rfl
    rw [List.getElem?_map, hc] at hA
    have ecol : rows.map (fun r => r.getD i .none) = (c.col e i).map PyData.int := by
      show (e.map _).map _ = (e.map _).map _
      rw [List.map_map, List.map_map]
      refine List.map_congr_left fun x _ => ?_
      have hx : i < (c.wd x).length := by rw [ok.w]; exact hi2
      show ((c.wd x).map PyData.int).getD i .none = .int ((c.wd x).getD i 0)
      rw [List.getD_eq_getElem?_getD, List.getElem?_map, List.getD_eq_getElem?_getD, List.getElem?_eq_getElem hx]
      rfl
    rw [ecol] at hA
    cases hA
    refine ⟨_, _, jg_name 5 c_words.nd, ?_⟩
    refine jb_set (A := aD (dW (setI (c.col e i)))) 6 c_words.nd (je_call C1 hr (Nat.le_refl _) (ja_cons (je_v 5) ja_nil) (setof_IT _ (by unfold Ch.col; rw [List.length_map]; omega))) ?_
    let δw : DSt := δi i (some (.val (aD (dW (c.col e i))))) (some (.val (aD (dW (setI (c.col e i))))))
    show JB _ _ δw _
    have hv : (c.vals e)[i]? = some (setI (c.col e i)) := by
      unfold Ch.vals
      rw [List.getElem?_map, List.getElem?_range hi2]
      rfl
    have etk : (c.vals e).take (i + 1) = (c.vals e).take i ++ [setI (c.col e i)] := by
      rw [List.take_add_one, hv]
      rfl
    have ewf : (wordsF ((c.vals e).take i)).flatMap (out2 (fun _ => setI (c.col e i)) (fun _ _ => true) fun w v => dW (w ++ [v])) = (wordsF ((c.vals e).take (i + 1))).map dW := by
      rw [words_out, etk, wordsF_snoc]
    have hl1 := wordsF_len i ((c.vals e).take i) (by rw [List.length_take, vl]; omega) fun vs h => vals_len bt e vs (List.mem_of_mem_take h)
    have hl2 := wordsF_len (i + 1) ((c.vals e).take (i + 1)) (by rw [List.length_take, vl]; omega) fun vs h => vals_len bt e vs (List.mem_of_mem_take h)
    have h16 := bt.2
    have p16 : 2 ^ (i + 1) ≤ 2 ^ 16 := Nat.pow_le_pow_right (by decide) (by omega)
    refine jb_lc2 (own := [("word", 7), ("value", 8)]) (ws := [7]) (ws1 := [8]) 2 (wordsF ((c.vals e).take i)) (fun w => aD (dW w)) (fun _ => setI (c.col e i)) (fun _ v => aI v) (fun _ _ => true) (fun w v => dW (w ++ [v])) (fun w => (dwipe δw [7, 8]).set 7 (some (.val (aD (dW w))))) (fun w v => (dwipe ((dwipe δw [7, 8]).set 7 (some (.val (aD (dW w))))) [8]).set 8 (some (.val (aI v)))) [8]
      (ji_L (je_v 2)) (blkOk_by (N := N_words) (sc := defScope s_words) (by decide +kernel)) (by decide) (fun r hm s0 H1 Cc cl fp => jg_of (gn_mk c_words.nd rfl (.inl rfl) (.inr rfl) s0 H1 Cc cl fp)) (fun r hm _ _ _ _ _ => ji_T (je_v 6)) (fun r hm y hy s0 H1 Cc cl fp => jg_of (gn_mk c_words.nd rfl (.inl rfl) (.inr rfl) s0 H1 Cc cl fp)) (fun r hm y hy _ _ _ _ _ => jts_nil) (fun r hm y hy _ _ _ _ _ _ => ?_) ?_ rfl c_words.nd ?_
    · have hrl := hl1.2 r hm
      show JE _ _ _ _ (aD (.tuple ((r ++ [y]).map PyData.int)))
      refine je_tup ?_ (by rw [List.length_map, List.length_append, hrl]; exact small (by simp; omega))
      rw [List.map_append, List.map_append]
      exact ja_star (.inr rfl) (je_v 7) (ja_cons (je_v 8) ja_nil)
    · rw [ewf, List.length_map, sizeLine_eq]
      omega
    · rw [ewf]
      exact jb_frz (ds := (wordsF ((c.vals e).take (i + 1))).map dW) 2 rfl (jb_nil ⟨hi2, _, _, rfl⟩)
  · rw [e0]
    unfold cols
    rw [List.length_map, List.length_map, List.length_range]
  · subst e0
    have et : (c.vals e).take c.sz.length = c.vals e := List.take_of_length_le (by rw [vl]; exact Nat.le_refl _)
    show JB _ _ _ (Ret (aD (.list ((wordsF (c.vals e)).map dW))))
    rw [← et]
    exact jb_ret (je_v 2) Ret.same
end
end J
/-! choices. -/
namespace J
open PySem PySem.Spec L2
abbrev Assoc := List (List Int × List Nat)
def lkA (l : Assoc) (w : List Int) : Option (List Nat) := (l.find? fun kv => decide (kv.1 = w)).map (·.2)
def putA (l : Assoc) (w : List Int) (ns : List Nat) : Assoc := if (l.any fun kv => decide (kv.1 = w)) = true then l.map (fun kv => if kv.1 = w then (kv.1, ns) else kv) else l ++ [(w, ns)]
def stepA (e : List Nat) (l : Assoc) (w : List Int) : Assoc := putA l w (((lkA l w).getD e).filter fun n => e.contains n)
def Ch.choices (c : Ch) (k : Nat) : Assoc := (c.evs k).foldl (fun l e => (c.words e).foldl (stepA e) l) []
theorem putA_len (l : Assoc) (w : List Int) (ns : List Nat) : (putA l w ns).length ≤ l.length + 1 := by
  unfold putA
  split
  · rw [List.length_map]; omega
  · rw [List.length_append]; simp
theorem fold_len (e : List Nat) : ∀ (ws : List (List Int)) (l : Assoc), (ws.foldl (stepA e) l).length ≤ l.length + ws.length
  | [], l => by simp
  | w :: ws, l => by
    have h1 := fold_len e ws (stepA e l w)
    have h2 := putA_len l w (((lkA l w).getD e).filter fun n => e.contains n)
    rw [List.foldl_cons, List.length_cons]
    unfold stepA at h1 ⊢
    omega
section
variable {nm : Nat → Str}
abbrev kW (w : List Int) : List L2.Key := w.map Sum.inl
abbrev encA (nm : Nat → Str) (kv : List Int × List Nat) : List L2.Key × PyData := (kW kv.1, .list (kv.2.map (eN nm)))
theorem kW_inj (a b : List Int) (h : kW a = kW b) : a = b := List.map_inj_right (fun x y h => by injection h) |>.mp h
theorem kW_D (w : List Int) : PyData.tuple ((kW w).map kD) = dW w := by
  show PyData.tuple ((w.map Sum.inl).map kD) = _
  rw [List.map_map]
  rfl
theorem dec_kW (a b : List Int) : decide (kW a = kW b) = decide (a = b) := decide_eq_decide.mpr ⟨kW_inj a b, fun h => by rw [h]⟩
theorem lk_A (l : Assoc) (w : List Int) : lk (l.map (encA nm)) (kW w) = (lkA l w).map fun ns => .list (ns.map (eN nm)) := by
  unfold lk lkA
  rw [List.find?_map]
  have e : ((fun kv : List L2.Key × PyData => decide (kv.1 = kW w)) ∘ encA nm) = fun kv : List Int × List Nat => decide (kv.1 = w) := funext fun kv => dec_kW kv.1 w
  rw [e, Option.map_map, Option.map_map]
  rfl
theorem put_A (l : Assoc) (w : List Int) (ns : List Nat) : put (l.map (encA nm)) (kW w) (.list (ns.map (eN nm))) = (putA l w ns).map (encA nm) := by
  unfold put putA
  have e : (l.map (encA nm)).any (fun kv => decide (kv.1 = kW w)) = l.any fun kv => decide (kv.1 = w) := by
    rw [List.any_map]
    exact congrArg (fun g => l.any g) (funext fun kv => dec_kW kv.1 w)
  rw [e]
  split
  · rw [List.map_map, List.map_map]
    refine List.map_congr_left fun kv _ => ?_
    show (if kW kv.1 = kW w then _ else _) = encA nm (if kv.1 = w then _ else _)
    by_cases h : kv.1 = w
    · rw [if_pos (by rw [h]), if_pos h]
    · rw [if_neg fun z => h (kW_inj _ _ z), if_neg h]
  · rw [List.map_append]
    rfl
theorem told_eq (nm : Nat → Str) (c : Ch) : (dSs nm c).map aD = (toldM nm c).map fun kv => aD (.tuple [kD kv.1, kv.2]) := by
  unfold toldM
  rw [List.map_map, List.map_map]
  rfl
theorem je_told {X : Cx} {δ δ1 : DSt} {a : Expr} {j k n0 : Nat} {p1 p2 p3 p4 p5 p6 : Pos} {c : Ch} (H : NamX nm) (C0 : Cal X.prog X.w X.K X.mg X.base k "tupled" (R_tupled 4)) (hr : Room j X.A) (hk : k ≤ j) (hc : X.calm = true) (hm : X.mg "dict" = none) (ha : JE X a δ δ1 (aD (dCh nm c))) (hg : Gl X "dict" := by rfl) (hg2 : Gl X "tupled" := by rfl)
    (hst : starEach [a] X.env = (false, eval a X.env) :: starEach [] X.env := by rfl) (hst2 : starEach [.Subscript (.Call (.Name "tupled" p2) [a] [] p3) (.Constant (.int 1) n0 p4) p5] X.env = (false, eval (.Subscript (.Call (.Name "tupled" p2) [a] [] p3) (.Constant (.int 1) n0 p4) p5) X.env) :: starEach [] X.env := by rfl) :
    JE X (.Call (.Name "dict" p1) [.Subscript (.Call (.Name "tupled" p2) [a] [] p3) (.Constant (.int 1) n0 p4) p5] [] p6) δ δ1 (aMK (toldM nm c)) := by
  refine je_dictF hm hc ?_ ?_ hg hst2
  · unfold toldM
    rw [List.map_map]
    exact keys_nd H c.m
  · have h := je_ixTA (pos := p5) (i := 1) (A := aTF ((dSs nm c).map aD)) (je_call (p := p2) (pos := p3) C0 hr hk (ja_cons ha ja_nil hst) (tup_chart nm c) hg2 (by decide) hst rfl) (je_int (j := n0) (pos := p4)) rfl
    rw [told_eq] at h
    exact h
end
section
variable {P : Program} {w : World} {K : PySem.W.Frag} {mg : Str → Option Value} {base : Heap} {nm : Nat → Str} {f : Addr} {fd : FuncData} {k : Nat}
abbrev s_choices : Stmt := topS 41
abbrev N_choices : List Str := ["chart", "long", "told", "found", "event", "word", "name"]
theorem c_choices : FnScope N_choices ["chart", "long"] (defScope s_choices) := ⟨rfl, rfl, rfl, by decide +kernel, rfl, by decide +kernel, by decide +kernel⟩
def R_choices (nm : Nat → Str) : Rl := fun As Z => ∃ (c : Ch) (k : Nat), c.Ok ∧ c.ti.length ≤ 20 ∧ k ≤ 2 ∧ c.Bit ∧ As = [aD (dCh nm c), aI (k : Int)] ∧ Z = aMT ((c.choices k).map (encA nm))
theorem f_choices (H : NamX nm) (F : Fun K "choices" "choices" s_choices f fd) (C0 : Cal P w K mg base k "tupled" (R_tupled 4)) (C1 : Cal P w K mg base k "events" (R_events nm)) (C2 : Cal P w K mg base k "words_in" (R_words nm)) (m1 : mg "dict" = none) : FnOk P w K mg base CX0 (k + 1) f fd ["chart", "long"] (spJ (R_choices nm)) := by
  refine fn_j F c_choices (fun As Z ⟨i, _, _, _, _, _, e, _⟩ => by rw [e]; rfl) fun cdv A0 outer s H0 E As Z hr ⟨c, n, ok, tl, hn, bt, e1, e2⟩ => ?_
  subst e1 e2
  have hu := hr.un
  refine jb_parX (c1 := .val (aMK (toldM nm c))) (c2 := .mut (mMT [])) 2 3 rfl c_choices.nd (jxs_cons (jx_of (je_told H C0 hr (Nat.le_refl _) rfl m1 (je_v 0))) (jxs_cons jx_newT jxs_nil)) ?_
  obtain ⟨es, hes⟩ : ∃ es, es = c.evs n := ⟨_, rfl⟩
  have hel := evs_len ok n
  have hev := fun e he => evs_ev ok (k := n) e he
  rw [← hes] at hel hev
  let gO : Assoc → List Nat → Assoc := fun l e => (c.words e).foldl (stepA e) l
  let δi : Assoc → Option Cell → Option Cell → DSt := fun l c4 c5 => [some (.val (aD (dCh nm c))), some (.val (aI (n : Int))), some (.val (aMK (toldM nm c))), some (.mut (mMT (l.map (encA nm)))), c4, c5, none]
  have len_take : ∀ i, i ≤ es.length → ((es.take i).foldl gO []).length ≤ i * 65536 := fun i => by
    induction i with
    | zero => intro _; simp
    | succ i ih =>
      intro hi
      have h1 := ih (by omega)
      have hx : es[i]? = some es[i] := List.getElem?_eq_getElem (by omega)
      rw [List.take_add_one, hx, List.foldl_append]
      have h2 := fold_len es[i] (c.words es[i]) ((es.take i).foldl gO [])
      have h3 := (words_len bt es[i]).1
      show (gO _ _).length ≤ _
      show ((c.words es[i]).foldl (stepA es[i]) _).length ≤ _
      omega
  refine jb_cons (M := fun δ' => ∃ c4 c5, δ' = δi (es.foldl gO []) c4 c5) (js_for (I := fun i δ' => ∃ c4 c5, δ' = δi ((es.take i).foldl gO []) c4 c5) (ji_T (xs := es) (enc := eE nm) (JE.eq (je_call C1 hr (Nat.le_refl _) (ja_cons (je_v 0) (ja_cons (je_v 1) ja_nil)) ⟨c, n, ok, tl, hn, rfl, rfl⟩) (by rw [hes]))) PassesOwn.never rfl ⟨none, none, rfl⟩ (fun i A δ' hA ⟨c4, c5, e⟩ => ?_) (fun δ' ⟨c4, c5, e⟩ => ⟨c4, c5, ?_⟩)) fun δ' ⟨c4, c5, e⟩ => ?_
  · subst e
    rw [List.getElem?_map] at hA
    cases hxe : es[i]? with
    | none => rw [hxe] at hA; cases hA
    | some ev =>
      rw [hxe] at hA
      cases hA
      refine ⟨_, _, jg_name 4 c_choices.nd, ?_⟩
      have hme := List.mem_of_getElem? hxe
      obtain ⟨hv, hvl⟩ := hev ev hme
      have hil := (List.getElem?_eq_some_iff.mp hxe).1
      have hlt := len_take i (by omega)
      obtain ⟨L, hL⟩ : ∃ L, L = (es.take i).foldl gO [] := ⟨_, rfl⟩
      rw [← hL] at hlt ⊢
      have ei : (es.take (i + 1)).foldl gO [] = (c.words ev).foldl (stepA ev) L := by
        rw [List.take_add_one, hxe, List.foldl_append, ← hL]
        rfl
      have hwl := (words_len bt ev).1
      refine jb_cons (M := fun d => ∃ c4 c5, d = δi ((es.take (i + 1)).foldl gO []) c4 c5) (js_for (I := fun j δ' => ∃ c5, δ' = δi (((c.words ev).take j).foldl (stepA ev) L) (some (.val (aD (eE nm ev)))) c5) (ji_L (xs := c.words ev) (enc := dW) (je_call C2 hr (Nat.le_refl _) (ja_cons (je_v 2) (ja_cons (je_v 4) ja_nil)) ⟨c, ev, ok, bt, hv, by omega, rfl, rfl⟩)) PassesOwn.never rfl ⟨c5, rfl⟩ (fun j A δ' hA ⟨c5, e⟩ => ?_) (fun δ' ⟨c5, e⟩ => ⟨some (.val (aD (eE nm ev))), c5, ?_⟩)) fun δ' h => jb_nil h
      · subst e
        rw [List.getElem?_map] at hA
        cases hxw : (c.words ev)[j]? with
        | none => rw [hxw] at hA; cases hA
        | some wd =>
          rw [hxw] at hA
          cases hA
          refine ⟨_, _, jg_name 5 c_choices.nd, ?_⟩
          have hl2 := fold_len ev ((c.words ev).take j) L
          have hl3 : ((c.words ev).take j).length ≤ 65536 := by rw [List.length_take]; omega
          obtain ⟨L2, hL2⟩ : ∃ L2, L2 = ((c.words ev).take j).foldl (stepA ev) L := ⟨_, rfl⟩
          rw [← hL2] at hl2 ⊢
          have ej : ((c.words ev).take (j + 1)).foldl (stepA ev) L = stepA ev L2 wd := by
            rw [List.take_add_one, hxw, List.foldl_append, ← hL2]
            rfl
          let δw : DSt := δi L2 (some (.val (aD (eE nm ev)))) (some (.val (aD (dW wd))))
          show JB _ _ δw _
          have hword : ∀ {X : Cx} {δ : DSt} {e : Expr}, JE X e δ δ (aD (dW wd)) → JE X e δ δ (aD (.tuple ((kW wd).map kD))) := fun h => JE.eq h (kW_D wd).symm
          refine jb_cons (M := fun d => ∃ c5, d = δi (((c.words ev).take (j + 1)).foldl (stepA ev) L) (some (.val (aD (eE nm ev)))) c5) (js_putT (δ1 := δw.set 6 none) (d := .list ((((lkA L2 wd).getD ev).filter fun n => ev.contains n).map (eN nm))) (kvs := L2.map (encA nm)) (k := kW wd) 3 (by show (A0.deeper _).units + 1 < cLine; omega) (JN.dat (jn_f (δ1 := δw) 6 ((lkA L2 wd).getD ev) (eN nm) (fun n => ev.contains n) (eN nm) ?_ (blkOk_by (N := N_choices) (sc := defScope s_choices) (by decide +kernel)) (fun x hx _ _ _ _ _ => JT.eq (jt_in (ds := ev.map (eN nm)) (.inr rfl) (je_v 6) (je_v 4) rfl (flat_N ev)) (by rw [any_N H.toNam])) (fun x hx _ _ _ _ _ _ => je_v 6) rfl c_choices.nd)) rfl (hword (je_v 5)) (by rw [List.length_map, sizeLine_eq]; omega) ⟨some (.val (aD (dW wd))), ?_⟩) fun δ' h => jb_nil h
          · cases hq : lkA L2 wd with
            | none => exact ji_T (JE.eq (je_getOwnT (kvs := L2.map (encA nm)) (k := kW wd) (d := eE nm ev) 3 (by show (A0.deeper _).units + 1 < cLine; omega) rfl (hword (je_v 5)) (je_v 4)) (by rw [lk_A, hq]; rfl))
            | some ns => exact ji_L (JE.eq (je_getOwnT (kvs := L2.map (encA nm)) (k := kW wd) (d := eE nm ev) 3 (by show (A0.deeper _).units + 1 < cLine; omega) rfl (hword (je_v 5)) (je_v 4)) (by rw [lk_A, hq]; rfl))
          · rw [put_A, ej]
            rfl
      · rw [e, ei, List.length_map, List.take_of_length_le (Nat.le_refl _)]
  · rw [e, List.length_map, List.take_length]
  · subst e
    refine jb_frzT (kvs := (es.foldl gO []).map (encA nm)) 3 rfl ?_
    show JB _ _ _ (Ret (aMT ((c.choices n).map (encA nm))))
    unfold Ch.choices
    rw [← hes]
    exact jb_ret (je_v 3) Ret.same
end
end J
/-! What choices tells; words in order. -/
namespace J
open PySem PySem.Spec L2
theorem lkA_cons (kv : List Int × List Nat) (l : Assoc) (w : List Int) : lkA (kv :: l) w = if kv.1 = w then some kv.2 else lkA l w := by
  unfold lkA
  rw [List.find?_cons]
  by_cases h : kv.1 = w
  · rw [decide_eq_true h, if_pos h]
    rfl
  · rw [decide_eq_false h, if_neg h]
theorem lkA_none {l : Assoc} {w : List Int} : lkA l w = none ↔ w ∉ l.map (·.1) := by
  induction l with
  | nil => simp [lkA]
  | cons kv l ih =>
    rw [lkA_cons, List.map_cons, List.mem_cons]
    by_cases h : kv.1 = w
    · rw [if_pos h]
      simp [h]
    · rw [if_neg h, ih]
      simp [Ne.symm h]
theorem lkA_app (l m : Assoc) (w : List Int) : lkA (l ++ m) w = (lkA l w).or (lkA m w) := by
  unfold lkA
  rw [List.find?_append]
  cases l.find? (fun kv => decide (kv.1 = w)) <;> rfl
theorem any_key {l : Assoc} {w : List Int} : (l.any fun kv => decide (kv.1 = w)) = true ↔ w ∈ l.map (·.1) := by
  rw [List.any_eq_true]
  constructor
  · rintro ⟨kv, h1, h2⟩
    exact List.mem_map.mpr ⟨kv, h1, of_decide_eq_true h2⟩
  · intro h
    obtain ⟨kv, h1, h2⟩ := List.mem_map.mp h
    exact ⟨kv, h1, decide_eq_true h2⟩
theorem putA_keys (l : Assoc) (w : List Int) (ns : List Nat) : (putA l w ns).map (·.1) = if w ∈ l.map (·.1) then l.map (·.1) else l.map (·.1) ++ [w] := by
  unfold putA
  by_cases h : w ∈ l.map (·.1)
  · rw [if_pos (any_key.mpr h), if_pos h, List.map_map]
    refine List.map_congr_left fun kv _ => ?_
    show (if kv.1 = w then (kv.1, ns) else kv).1 = kv.1
    split <;> rfl
  · rw [if_neg fun z => h (any_key.mp z), if_neg h, List.map_append]
    rfl
theorem lkA_rep (w : List Int) (ns : List Nat) (w' : List Int) : ∀ l : Assoc, lkA (l.map fun kv => if kv.1 = w then (kv.1, ns) else kv) w' = if w' = w then (lkA l w).map (fun _ => ns) else lkA l w'
  | [] => by
    unfold lkA
    split <;> rfl
  | kv :: l => by
    rw [List.map_cons, lkA_cons, lkA_rep w ns w' l, lkA_cons, lkA_cons]
    by_cases h1 : kv.1 = w
    · rw [if_pos h1, if_pos h1]
      by_cases h2 : w' = w
      · rw [if_pos h2, if_pos (show kv.1 = w' by rw [h1, h2]), if_pos h2]
        rfl
      · rw [if_neg h2, if_neg (by show ¬ kv.1 = w'; rw [h1]; exact fun z => h2 z.symm), if_neg h2, if_neg (by rw [h1]; exact fun z => h2 z.symm)]
    · rw [if_neg h1, if_neg h1]
      by_cases h2 : w' = w
      · rw [if_pos h2, if_pos h2, if_neg (by rw [h2]; exact h1)]
      · rw [if_neg h2, if_neg h2]
theorem lkA_put (l : Assoc) (w : List Int) (ns : List Nat) (w' : List Int) : lkA (putA l w ns) w' = if w' = w then some ns else lkA l w' := by
  unfold putA
  by_cases h : w ∈ l.map (·.1)
  · rw [if_pos (any_key.mpr h), lkA_rep]
    by_cases h2 : w' = w
    · rw [if_pos h2, if_pos h2]
      cases q : lkA l w with
      | none => exact absurd h (lkA_none.mp q)
      | some x => rfl
    · rw [if_neg h2, if_neg h2]
  · rw [if_neg fun z => h (any_key.mp z), lkA_app, lkA_cons]
    by_cases h2 : w' = w
    · rw [if_pos h2, if_pos h2.symm, h2, lkA_none.mpr h]
      rfl
    · rw [if_neg h2, if_neg fun z => h2 z.symm]
      cases lkA l w' <;> rfl
/-- the pairs that choices sees -/
def Ch.seen (c : Ch) (k : Nat) : List (List Nat × List Int) := (c.evs k).flatMap fun e => (c.words e).map fun w => (e, w)
theorem choices_fold (c : Ch) (k : Nat) : c.choices k = (c.seen k).foldl (fun l p => stepA p.1 l p.2) [] := by
  unfold Ch.choices Ch.seen
  rw [List.foldl_flatMap]
  refine congrArg (fun g => (c.evs k).foldl g []) (funext fun l => funext fun e => ?_)
  rw [List.foldl_map]
structure ChoOk (ps : List (List Nat × List Int)) (l : Assoc) : Prop where
  nd : (l.map (·.1)).Nodup
  key : ∀ w, w ∈ l.map (·.1) ↔ ∃ p ∈ ps, p.2 = w
  val : ∀ w ns, lkA l w = some ns → ∀ x, x ∈ ns ↔ ∀ p ∈ ps, p.2 = w → x ∈ p.1
theorem choOk_fold : ∀ (n : Nat) (ps : List (List Nat × List Int)), ps.length = n → ChoOk ps (ps.foldl (fun l p => stepA p.1 l p.2) [])
  | 0, ps, h => by
    rw [List.length_eq_zero_iff.mp h]
    exact ⟨List.nodup_nil, fun w => by simp, fun w ns h => by cases h⟩
  | n + 1, ps, h => by
    obtain ⟨l, p, rfl⟩ : ∃ l x, ps = l ++ [x] := ⟨ps.dropLast, ps.getLast (fun z => by rw [z] at h; cases h), (List.dropLast_concat_getLast _).symm⟩
    have ih := choOk_fold n l (by simpa using h)
    rw [List.foldl_append]
    generalize l.foldl (fun l p => stepA p.1 l p.2) [] = L at ih
    show ChoOk (l ++ [p]) (stepA p.1 L p.2)
    unfold stepA
    refine ⟨?_, fun w => ?_, fun w ns hl x => ?_⟩
    · rw [putA_keys]
      split
      · exact ih.nd
      · rename_i hw
        exact List.nodup_append.mpr ⟨ih.nd, by simp, fun a ha b hb => by rw [List.mem_singleton.mp hb]; exact fun z => hw (by rw [← z]; exact ha)⟩
    · have e : (∃ q ∈ l ++ [p], q.2 = w) ↔ (∃ q ∈ l, q.2 = w) ∨ p.2 = w := by
        constructor
        · rintro ⟨q, hq, e⟩
          rcases List.mem_append.mp hq with z | z
          · exact .inl ⟨q, z, e⟩
          · rw [List.mem_singleton.mp z] at e
            exact .inr e
        · rintro (⟨q, hq, e⟩ | e)
          · exact ⟨q, List.mem_append_left _ hq, e⟩
          · exact ⟨p, by simp, e⟩
      rw [e, ← ih.key w, putA_keys]
      by_cases q : p.2 = w
      · rw [q]
        split
        · rename_i z
          exact ⟨fun _ => .inr rfl, fun _ => z⟩
        · simp
      · split
        · exact ⟨fun z => .inl z, fun z => z.elim id fun z => absurd z q⟩
        · rw [List.mem_append, List.mem_singleton]
          exact ⟨fun z => z.elim .inl fun z => absurd z.symm q, fun z => z.elim .inl fun z => absurd z q⟩
    · rw [lkA_put] at hl
      have split3 : (∀ q ∈ l ++ [p], q.2 = w → x ∈ q.1) ↔ (∀ q ∈ l, q.2 = w → x ∈ q.1) ∧ (p.2 = w → x ∈ p.1) := by
        constructor
        · exact fun z => ⟨fun q hq => z q (List.mem_append_left _ hq), z p (by simp)⟩
        · rintro ⟨z1, z2⟩ q hq
          rcases List.mem_append.mp hq with z | z
          · exact z1 q z
          · rw [List.mem_singleton.mp z]
            exact z2
      rw [split3]
      by_cases q : w = p.2
      · rw [if_pos q] at hl
        cases hl
        rw [List.mem_filter]
        have hp : (p.1.contains x = true) ↔ x ∈ p.1 := List.contains_iff_mem
        rw [hp]
        cases hq : lkA L p.2 with
        | none =>
          have hk : p.2 ∉ L.map (·.1) := lkA_none.mp hq
          rw [ih.key] at hk
          show x ∈ p.1 ∧ x ∈ p.1 ↔ _
          exact ⟨fun z => ⟨fun q' hq' e => absurd ⟨q', hq', by rw [e, q]⟩ hk, fun _ => z.1⟩, fun z => ⟨z.2 q.symm, z.2 q.symm⟩⟩
        | some ns' =>
          have := ih.val p.2 ns' hq x
          show x ∈ ns' ∧ x ∈ p.1 ↔ _
          rw [this, q]
          exact ⟨fun z => ⟨z.1, fun _ => z.2⟩, fun z => ⟨z.1, z.2 rfl⟩⟩
      · rw [if_neg q] at hl
        rw [ih.val w ns hl x]
        exact ⟨fun z => ⟨z, fun e => absurd e.symm q⟩, fun z => z.1⟩
theorem choices_ok (c : Ch) (k : Nat) : ChoOk (c.seen k) (c.choices k) := by
  rw [choices_fold]
  exact choOk_fold _ _ rfl
theorem mem_seen {c : Ch} {k : Nat} {p : List Nat × List Int} : p ∈ c.seen k ↔ p.1 ∈ c.evs k ∧ p.2 ∈ c.words p.1 := by
  unfold Ch.seen
  rw [List.mem_flatMap]
  constructor
  · rintro ⟨e, he, h⟩
    obtain ⟨w, hw, rfl⟩ := List.mem_map.mp h
    exact ⟨he, hw⟩
  · rintro ⟨h1, h2⟩
    exact ⟨p.1, h1, List.mem_map.mpr ⟨p.2, h2, rfl⟩⟩
/-! ### words in order -/
def ltW : List Int → List Int → Bool
  | [], [] => false
  | [], _ :: _ => true
  | _ :: _, [] => false
  | x :: xs, y :: ys => if x < y then true else if y < x then false else ltW xs ys
theorem ltD_W (a b : List Int) : ltD (dW a) (dW b) = ltW a b := by
  have h : ∀ a b : List Int, ltAll (a.map PyData.int) (b.map PyData.int) = ltW a b := fun a => by
    induction a with
    | nil => intro b; cases b <;> simp [ltAll, ltW]
    | cons x a ih =>
      intro b
      cases b with
      | nil => simp [ltAll, ltW]
      | cons y b =>
        rw [List.map_cons, List.map_cons, ltAll, ltW, ih b]
        simp [ltD]
  rw [ltD]
  exact h a b
theorem cmp_W (a b : List Int) : cmpb (dW a) (dW b) = true := by
  have h : ∀ a b : List Int, cmpbAll (a.map PyData.int) (b.map PyData.int) = true := fun a => by
    induction a with
    | nil => intro b; cases b <;> simp [cmpbAll]
    | cons x a ih =>
      intro b
      cases b with
      | nil => simp [cmpbAll]
      | cons y b => simp [cmpbAll, cmpb, ih b]
  rw [cmpb]
  exact h a b
theorem shp_W (a : List Int) : SeqAt.shaped (dW a) = true := by
  have h1 : ∀ e : List Int, PyData.canLayAll0 (e.map PyData.int) = true := fun e => by
    induction e with
    | nil => rfl
    | cons a e ih =>
      show ((PyData.int a).canLay0 && PyData.canLayAll0 (e.map PyData.int)) = true
      rw [ih]
      rfl
  have h2 : ∀ e : List Int, PyData.depthAll (e.map PyData.int) ≤ 1 := fun e => by
    induction e with
    | nil => simp [PyData.depthAll]
    | cons a e ih =>
      simp only [List.map_cons, PyData.depthAll, PyData.depth]
      omega
  unfold SeqAt.shaped
  rw [show (dW a).canLay0 = true from h1 a, Bool.true_and, decide_eq_true_eq]
  have := h2 a
  simp only [PyData.depth]
  omega
theorem srt_W (ws : List (List Int)) (ne : ∀ w ∈ ws, w ≠ []) : SrtOk (ws.map dW) := ⟨fun d hd e he => by
  obtain ⟨a, _, rfl⟩ := List.mem_map.mp hd
  obtain ⟨b, _, rfl⟩ := List.mem_map.mp he
  exact cmp_W a b, .inl fun d hd => by
  obtain ⟨a, ha, rfl⟩ := List.mem_map.mp hd
  cases a with
  | nil => exact absurd rfl (ne _ ha)
  | cons x a => exact ⟨_, _, rfl⟩, fun d hd => by
  obtain ⟨a, _, rfl⟩ := List.mem_map.mp hd
  exact shp_W a⟩
def sortW (l : List (List Int)) : List (List Int) := l.mergeSort fun a b => !ltW b a
theorem sortW_map (l : List (List Int)) : srtD (l.map dW) = (sortW l).map dW := (PySem.W.sort_maps (r := fun a b => !ltW b a) (s := fun a b => !ltD b a) dW (fun a _ b _ => by rw [ltD_W])).symm
theorem sortW_perm (l : List (List Int)) : (sortW l).Perm l := List.mergeSort_perm _ _
theorem dW_inj (a b : List Int) (h : dW a = dW b) : a = b := by
  injection h with h
  exact List.map_inj_right (fun x y h => by injection h) |>.mp h
/-- words that differ, sorted: rising -/
theorem sortW_asc {l : List (List Int)} (nd : l.Nodup) : (sortW l).Pairwise fun a b => ltW a b = true := by
  have h1 := srtD_pw (l.map dW)
  rw [sortW_map, List.pairwise_map] at h1
  have h2 : (sortW l).Nodup := (sortW_perm l).nodup_iff.mpr nd
  refine (h1.and h2).imp fun {a b} ⟨p, q⟩ => ?_
  have p' : ltD (dW b) (dW a) = false := p
  cases r : ltW a b with
  | true => rfl
  | false =>
    have := cmp_anti (dW a) (dW b) (cmp_W a b) (by rw [ltD_W]; exact r) p'
    exact absurd (dW_inj _ _ this) q
end J
/-! a_reader. -/
namespace J
open PySem PySem.Spec L2
/-- what is told at the words met, if something can be -/
def Ch.reader (c : Ch) (k : Nat) : Option (List (List Int × Nat)) := if (c.choices k).any (fun kv => kv.2.isEmpty) then none else Option.some ((sortW ((c.choices k).map (·.1))).map fun w => (w, ((lkA (c.choices k) w).getD []).headD 0))
theorem choices_key {c : Ch} (b : c.Bit) {k : Nat} : ∀ w ∈ (c.choices k).map (·.1), w.length = c.sz.length := fun w hw => by
  obtain ⟨p, hp, rfl⟩ := ((choices_ok c k).key w).mp hw
  exact (words_len b p.1).2 _ (mem_seen.mp hp).2
theorem choices_len {c : Ch} (ok : c.Ok) (b : c.Bit) (k : Nat) : (c.choices k).length ≤ 32 * 65536 := by
  have h : ∀ (es : List (List Nat)) (l : Assoc), (es.foldl (fun l e => (c.words e).foldl (stepA e) l) l).length ≤ l.length + es.length * 65536 := fun es => by
    induction es with
    | nil => intro l; simp
    | cons e es ih =>
      intro l
      have h1 := ih ((c.words e).foldl (stepA e) l)
      have h2 := fold_len e (c.words e) l
      have h3 := (words_len b e).1
      rw [List.foldl_cons, List.length_cons]
      omega
  have h1 := h (c.evs k) []
  have h2 := evs_len ok k
  have : (c.evs k).length * 65536 ≤ 32 * 65536 := Nat.mul_le_mul h2 (Nat.le_refl _)
  show ((c.evs k).foldl _ []).length ≤ _
  simp only [List.length_nil] at h1
  omega
section
variable {X : Cx} {δ δ1 δ2 : DSt} {o e : Expr} {pos apos cpos : Pos} {d : PyData}
theorem jt_inValsT {kvs : List (List L2.Key × PyData)} (hc : X.calm = true) (hu : X.A.units + 65 < cLine) (he : JE X e δ δ1 (aD d)) (ho : JE X o δ1 δ2 (aMT kvs)) (sd : SeqAt.shaped d = true) (sds : ∀ z ∈ kvs, SeqAt.shaped z.2 = true)
    (hm : behindInMarks .In (.Call (.Attribute o "values" apos) [] [] cpos) = false := by first | exact nobehind _ (by decide) (by decide) | rfl)
    (hbase : attributeBase o "values" X.env (eval o X.env) = eval o X.env := by rfl) (hline : (apos.endLine == cpos.line) = true := by rfl) :
    JT X (.Compare e [.In] [.Call (.Attribute o "values" apos) [] [] cpos] pos) δ δ2 (kvs.any fun z => PyData.eqv z.2 d) :=
  PT.imp (pt_cmpR (op_inVals hc hu) he (pe_bm0 PySem.F.plainAttrs_dict PySem.F.slot_dict_values PySem.F.type_dict_values mt_valsT ho hbase hline) hm) fun σ H Q ⟨F, B, E, q⟩ => ⟨F, B, E, fun x B1 H1 E1 s1 a1 => ⟨F, B1, E1, fun y B2 H2 E2 s2 ⟨a, ws, e1, h1, h2⟩ => by
    subst e1
    have hH := E2.bh _ _ h1
    refine ⟨.inr (.inr (.inl ⟨rfl, .inr ⟨_, hH⟩⟩)), a, ws, rfl, rfl, hH, fun p hp => ?_⟩
    have E3 := E2.laid (o := valsO p a) hp
    have s3 : Same B2 (upd B2 p (valsO p a)) := same_upd (E2.bh.free hp)
    have ne : a ≠ p := fun z => by rw [z, hp] at hH; cases hH
    refine ⟨p, a, ws, kvs.map (·.2), d, rfl, upd_same, by rw [upd_ne ne]; exact hH, DdAll.dp (E3.bh) _ _ (DdAll.mono s3 _ _ h2.vals), Dd.dp E3.bh _ _ (Dd.mono (s2.trans s3) _ _ a1), sd, fun z hz => ?_, _, rfl, ?_⟩
    · obtain ⟨y, hy, rfl⟩ := List.mem_map.mp hz
      exact sds y hy
    · rw [List.any_map]
      exact q _ _ E3 ((s1.trans s2).trans s3)⟩⟩
end
section
variable {P : Program} {w : World} {K : PySem.W.Frag} {mg : Str → Option Value} {base : Heap} {nm : Nat → Str} {f : Addr} {fd : FuncData} {k : Nat}
abbrev dRow (nm : Nat → Str) (p : List Int × Nat) : PyData := .tuple [dW p.1, eN nm p.2]
abbrev dRd (nm : Nat → Str) (r : List (List Int × Nat)) : PyData := .tuple (r.map (dRow nm))
abbrev s_aread : Stmt := topS 42
abbrev N_aread : List Str := ["chart", "long", "found", "word"]
theorem c_aread : FnScope N_aread ["chart", "long"] (defScope s_aread) := ⟨rfl, rfl, rfl, by decide +kernel, rfl, by decide +kernel, by decide +kernel⟩
def R_aread (nm : Nat → Str) : RlM := fun M M' As Z => ∃ (v0 : V) (c : Ch) (k : Nat), c.Ok ∧ c.ti.length ≤ 20 ∧ k ≤ 2 ∧ c.Bit ∧ 1 ≤ c.sz.length ∧ M = mTb v0 [] (aD (dCh nm c)) ∧ M' = M ∧ As = [aI (k : Int)] ∧ Z = (c.reader k).map fun r => aD (dRd nm r)
theorem shp_L (H : NamX nm) (ns : List Nat) : SeqAt.shaped (.list (ns.map (eN nm))) = true := by
  have h1 : ∀ e : List Nat, PyData.canLayAll0 (e.map (eN nm)) = true := fun e => by
    induction e with
    | nil => rfl
    | cons a e ih =>
      show ((eN nm a).canLay0 && PyData.canLayAll0 (e.map (eN nm))) = true
      rw [ih, show (eN nm a).canLay0 = true from H.ok a]
      rfl
  have h2 : ∀ e : List Nat, PyData.depthAll (e.map (eN nm)) ≤ 1 := fun e => by
    induction e with
    | nil => simp [PyData.depthAll]
    | cons a e ih =>
      simp only [List.map_cons, PyData.depthAll, PyData.depth]
      omega
  unfold SeqAt.shaped
  rw [show (PyData.list (ns.map (eN nm))).canLay0 = true from h1 ns, Bool.true_and, decide_eq_true_eq]
  have := h2 ns
  simp only [PyData.depth]
  omega
theorem eqv_nil (ns : List Nat) : PyData.eqv (.list (ns.map (eN nm))) (.list []) = ns.isEmpty := by
  cases ns with
  | nil => simp [PyData.eqv, PyData.eqvAll]
  | cons a l => simp [PyData.eqv, PyData.eqvAll]
theorem any_nil (l : Assoc) : ((l.map (encA nm)).any fun z => PyData.eqv z.2 (.list [])) = l.any fun kv => kv.2.isEmpty := by
  rw [List.any_map]
  exact congrArg (fun g => l.any g) (funext fun kv => eqv_nil kv.2)
theorem f_aread {CA : Addr} (H : NamX nm) (F : Fun K "a_reader" "a_reader" s_aread f fd) (X : ExcF K mg CA) (C1 : Cal P w K mg base k "choices" (R_choices nm)) (m1 : mg "tuple" = none) (m2 : mg "sorted" = none) : FnOk P w K mg base (L2.CX P w) (k + 1) f fd ["chart", "long"] (spM (.ref CA) (R_aread nm)) := by
  refine fn_jMX F c_aread (fun M M' As Z ⟨v0, c, k, _, _, _, _, _, e1, e2, e3, e4⟩ => ⟨by rw [e3]; rfl, by rw [e2, e1]; exact mTb_prec⟩) (fun cdv A outer s H0 E M M' As Z hr ⟨v0, c, n, ok, tl, hn, bt, sz1, e1, e2, e3, e4⟩ => ?_) fun cdv A outer s H0 E M M' As hr ⟨v0, c, n, ok, tl, hn, bt, sz1, e1, e2, e3, e4⟩ tk => ?_
  · subst e2 e1 e3
    have hu := hr.un
    have cl := choices_len ok bt n
    have ck := choices_key bt (k := n)
    have co := choices_ok c n
    have hne : ((c.choices n).any fun kv => kv.2.isEmpty) = false := by
      cases h : (c.choices n).any fun kv => kv.2.isEmpty with
      | false => rfl
      | true =>
        unfold Ch.reader at e4
        rw [if_pos h] at e4
        cases e4
    unfold Ch.reader at e4
    rw [if_neg (by rw [hne]; exact Bool.false_ne_true)] at e4
    cases e4
    let M0 : MV := mTb v0 [] (aD (dCh nm c))
    obtain ⟨l, hl⟩ : ∃ l, l = c.choices n := ⟨_, rfl⟩
    refine jb_set (A := aMT (l.map (encA nm))) 2 c_aread.nd (je_call C1 hr (Nat.le_refl _) (ja_cons (je_vT 0) (ja_cons (je_v 1) ja_nil)) ⟨c, n, ok, tl, hn, bt, rfl, by rw [hl]⟩) ?_
    rw [← hl] at hne cl ck co ⊢
    refine jb_ifR (p := false) (JT.eq (jt_inValsT (d := .list []) (kvs := l.map (encA nm)) rfl (by show (A.deeper _).units + 65 < cLine; omega) (je_lst (ds := []) ja_nil) (je_v 2) rfl fun z hz => ?_) (by rw [any_nil]; exact hne)) (fun z => by cases z) fun _ => ?_
    · obtain ⟨kv, _, rfl⟩ := List.mem_map.mp hz
      exact shp_L H kv.2
    · let δ0 : DSt := [some (.mut M0), some (.val (aI (n : Int))), some (.val (aMT (l.map (encA nm)))), none]
      have ekeys : (l.map (encA nm)).map (fun kv => PyData.tuple (kv.1.map kD)) = (l.map (·.1)).map dW := by
        rw [List.map_map, List.map_map]
        exact List.map_congr_left fun kv _ => kW_D kv.1
      refine jb_ret (δ1 := δ0) (A := aD (dRd nm ((sortW (l.map (·.1))).map fun w => (w, ((lkA l w).getD []).headD 0)))) (JE.eq (je_tupleL m1 (JN.dat (jn_m 3 (sortW (l.map (·.1))) dW (fun w => dRow nm (w, ((lkA l w).getD []).headD 0)) (ji_L (je_sortedDT (kvs := l.map (encA nm)) ((sortW (l.map (·.1))).map dW) ?_ ?_ ?_ m2 rfl (by show (A.deeper _).units + 68 < cLine; omega) (by rw [List.length_map, sizeLine_eq]; omega) (je_v 2))) (blkOk_by (N := N_aread) (sc := defScope s_aread) (by decide +kernel)) (fun wd hwd _ _ _ _ _ => ?_) rfl c_aread.nd))) ?_) (fun _ _ h => h) rfl
      · rw [ekeys]
        refine srt_W _ fun wd hwd z => ?_
        have := ck wd hwd
        rw [z] at this
        simp at this
        omega
      · rw [ekeys]
        exact (sortW_perm _).map dW
      · rw [← sortW_map]
        exact srtD_pw _
      · have hk := (sortW_perm _).mem_iff.mp hwd
        obtain ⟨ns, hns⟩ : ∃ ns, lkA l wd = some ns := by
          cases q : lkA l wd with
          | none => exact absurd hk (lkA_none.mp q)
          | some ns => exact ⟨ns, rfl⟩
        obtain ⟨i, is, rfl⟩ : ∃ i is, ns = i :: is := by
          cases ns with
          | cons i is => exact ⟨i, is, rfl⟩
          | nil =>
            have hm : (wd, ([] : List Nat)) ∈ l := by
              unfold lkA at hns
              obtain ⟨kv, h1, h2⟩ := Option.map_eq_some_iff.mp hns
              have h3' := List.find?_some h1
              have h3 : kv.1 = wd := of_decide_eq_true h3'
              have h4 := List.mem_of_find?_eq_some h1
              obtain ⟨a, b⟩ := kv
              dsimp only at h2 h3
              rw [← h2, ← h3]
              exact h4
            have := List.any_eq_false.mp hne _ hm
            exact absurd rfl this
        rw [hns]
        exact je_tup (ds := [dW wd, eN nm i]) (ja_cons (je_v 3) (ja_cons (je_ixL (ds := (i :: is).map (eN nm)) (d := eN nm i) (je_dgetT (kvs := l.map (encA nm)) (k := kW wd) (d := .list ((i :: is).map (eN nm))) (by show (A.deeper _).units + 1 < cLine; omega) (je_v 2) (JE.eq (je_v 3) (kW_D wd).symm) (by rw [lk_A, hns]; rfl)) je_int (atI_nat (j := 0) rfl)) ja_nil))
      · show PyData.tuple _ = PyData.tuple (List.map _ (List.map _ _))
        rw [List.map_map]
        rfl
  · subst e2 e1 e3
    have hu := hr.un
    have hne : ((c.choices n).any fun kv => kv.2.isEmpty) = true := by
      cases h : (c.choices n).any fun kv => kv.2.isEmpty with
      | true => rfl
      | false =>
        unfold Ch.reader at e4
        rw [if_neg (by rw [h]; exact Bool.false_ne_true)] at e4
        cases e4
    let M0 : MV := mTb v0 [] (aD (dCh nm c))
    refine jr_cons (M := fun d => d = [some (.mut M0), some (.val (aI (n : Int))), some (.val (aMT ((c.choices n).map (encA nm)))), none]) (js_set (A := aMT ((c.choices n).map (encA nm))) 2 (je_call C1 hr (Nat.le_refl _) (ja_cons (je_vT 0) (ja_cons (je_v 1) ja_nil)) ⟨c, n, ok, tl, hn, bt, rfl, rfl⟩) rfl c_aread.nd) fun δ' e => ?_
    subst e
    exact jr_ifR (JT.eq (jt_inValsT (d := .list []) (kvs := (c.choices n).map (encA nm)) rfl (by show (A.deeper _).units + 65 < cLine; omega) (je_lst (ds := []) ja_nil) (je_v 2) rfl fun z hz => by
      obtain ⟨kv, _, rfl⟩ := List.mem_map.mp hz
      exact shp_L H kv.2) (by rw [any_nil]; exact hne)) (jr_raise rfl tk PySem.F.excBase_ValueError X.q X.gC X.kC (raises_own X.b X.t) rfl)
end
end J
/-! is_told, wrongly_told, is_reader: of readers that are right. -/
namespace J
open PySem PySem.Spec L2
def lkR (r : List (List Int × Nat)) (w : List Int) : Option Nat := (r.find? fun p => decide (p.1 = w)).map (·.2)
/-- a row of a reader -/
structure RowOk (c : Ch) (p : List Int × Nat) : Prop where
  len : p.1.length = c.sz.length
  rng : ((p.1.zip c.sz).all fun q => decide (0 ≤ q.1) && decide (q.1 < q.2)) = true
  lt : p.2 < c.m
/-- a right one -/
structure RdOk (c : Ch) (k : Nat) (r : List (List Int × Nat)) : Prop where
  row : ∀ p ∈ r, RowOk c p
  asc : (r.map (·.1)).Pairwise fun a b => ltW a b = true
  told : ∀ e ∈ c.evs k, ∀ w ∈ c.words e, ∃ i, lkR r w = Option.some i ∧ i ∈ e
  few : r.length ≤ 32 * 65536
theorem ltW_irr : ∀ a : List Int, ltW a a = false
  | [] => rfl
  | x :: xs => by simp [ltW, ltW_irr xs]
section
variable {P : Program} {w : World} {K : PySem.W.Frag} {mg : Str → Option Value} {base : Heap} {nm : Nat → Str} {f : Addr} {fd : FuncData} {k : Nat}
abbrev s_istold : Stmt := topS 43
theorem c_istold : FnScope ["chart", "thing"] ["chart", "thing"] (defScope s_istold) := ⟨rfl, rfl, rfl, by decide +kernel, rfl, by decide +kernel, by decide +kernel⟩
def R_istold (nm : Nat → Str) : Rl := fun As Z => ∃ (c : Ch) (p : List Int × Nat), RowOk c p ∧ As = [aD (dCh nm c), aD (dRow nm p)] ∧ Z = aB true
theorem f_istold {t : Tok} (H : NamX nm) (F : Fun K "is_told" "is_told" s_istold f fd) (C1 : Cal P w K mg base k "is_word" R_isword) (C2 : Cal P w K mg base k "names" (R_names nm)) (m1 : mg "isinstance" = none) (m2 : mg "tuple" = none) (m3 : mg "len" = none) (m4 : mg "str" = none) (m5 : mg "PAIR" = some (.int 2 t)) : FnOk P w K mg base CX0 (k + 1) f fd ["chart", "thing"] (spJ (R_istold nm)) := by
  refine fn_j F c_istold (fun As Z ⟨i, _, _, e, _⟩ => by rw [e]; rfl) fun cdv A0 outer s H0 E As Z hr ⟨c, p, ok, e1, e2⟩ => ?_
  subst e1 e2
  refine jb_ifR (p := false) (jt_w (jw_or (p := false) (q := false) (jt_not (p := true) (jt_val (je_isi m1 (je_v 1) (je_ty m2 PyProof.Rows.boot_tuple) rfl))) fun _ => jw_or (p := false) (q := false) (jt_cmp op_ne rop_neI (je_lenT (ds := [dW p.1, eN nm p.2]) m3 (je_v 1)) (je_glI m5)) fun _ => jw_or1 (jt_not (p := true) (jt_val (je_call C1 hr (Nat.le_refl _) (ja_cons (je_ixT (d := dW c.sz) (je_v 0) je_int (atI_nat (j := 0) rfl)) (ja_cons (je_ixT (d := dW p.1) (je_v 1) je_int (atI_nat (j := 0) rfl)) ja_nil)) ⟨c.sz, p.1, rfl, ok.len, by rw [ok.rng]⟩))))) (fun z => by cases z) fun _ => ?_
  refine jb_ret (je_and (p := true) (q := true) (je_isi m1 (je_ixT (d := eN nm p.2) (je_v 1) je_int (atI_nat (j := 1) rfl)) (je_ty m4 PyProof.Rows.boot_str) rfl) fun _ => je_one (JE.eq (je_in (ds := (List.range c.m).map (eN nm)) (.inr rfl) (je_ixT (d := eN nm p.2) (je_v 1) je_int (atI_nat (j := 1) rfl)) (je_call C2 hr (Nat.le_refl _) (ja_cons (je_v 0) ja_nil) ⟨c, rfl, rfl⟩) rfl (flat_N _)) ?_)) Ret.same
  rw [any_N H.toNam, List.contains_iff_mem.mpr (List.mem_range.mpr ok.lt)]
/-! ### wrongly_told -/
abbrev encR (nm : Nat → Str) (p : List Int × Nat) : List L2.Key × PyData := (kW p.1, eN nm p.2)
theorem lk_R (r : List (List Int × Nat)) (w : List Int) : lk (r.map (encR nm)) (kW w) = (lkR r w).map (eN nm) := by
  unfold lk lkR
  rw [List.find?_map]
  have e : ((fun kv : List L2.Key × PyData => decide (kv.1 = kW w)) ∘ encR nm) = fun p : List Int × Nat => decide (p.1 = w) := funext fun p => dec_kW p.1 w
  rw [e, Option.map_map, Option.map_map]
  rfl
abbrev s_wrong : Stmt := topS 44
abbrev N_wrong : List Str := ["chart", "long", "reader", "told", "table", "found", "event", "word"]
theorem c_wrong : FnScope N_wrong ["chart", "long", "reader"] (defScope s_wrong) := ⟨rfl, rfl, rfl, by decide +kernel, rfl, by decide +kernel, by decide +kernel⟩
def R_wrong (nm : Nat → Str) : Rl := fun As Z => ∃ (c : Ch) (k : Nat) (r : List (List Int × Nat)), c.Ok ∧ c.ti.length ≤ 20 ∧ k ≤ 2 ∧ c.Bit ∧ RdOk c k r ∧ As = [aD (dCh nm c), aI (k : Int), aD (dRd nm r)] ∧ Z = aD (.list [])
theorem f_wrong (H : NamX nm) (F : Fun K "wrongly_told" "wrongly_told" s_wrong f fd) (C0 : Cal P w K mg base k "tupled" (R_tupled 4)) (C1 : Cal P w K mg base k "events" (R_events nm)) (C2 : Cal P w K mg base k "words_in" (R_words nm)) (m1 : mg "dict" = none) (m2 : mg "sorted" = none) : FnOk P w K mg base CX0 (k + 1) f fd ["chart", "long", "reader"] (spJ (R_wrong nm)) := by
  refine fn_j F c_wrong (fun As Z ⟨i, _, _, _, _, _, _, _, e, _⟩ => by rw [e]; rfl) fun cdv A0 outer s H0 E As Z hr ⟨c, n, r, ok, tl, hn, bt, rd, e1, e2⟩ => ?_
  subst e1 e2
  have hu := hr.un
  have nd : ((r.map (encR nm)).map (·.1)).Nodup := by
    rw [List.map_map]
    have h := rd.asc
    rw [List.pairwise_map] at h
    refine List.pairwise_map.mpr (h.imp fun {a b} q z => ?_)
    rw [kW_inj _ _ z, ltW_irr] at q
    cases q
  have fl : (r.map (dRow nm)).all (flatT 3) = true := by
    rw [List.all_map, List.all_eq_true]
    intro p _
    show (flatT 2 (dW p.1) && (flatT 2 (eN nm p.2) && true)) = true
    rw [flatT_W]
    rfl
  have tup : R_tupled 4 [aD (dRd nm r)] (aTF ((r.map (encR nm)).map fun kv => aD (.tuple [.tuple (kv.1.map kD), kv.2]))) := by
    have e : (r.map (encR nm)).map (fun kv => aD (.tuple [.tuple (kv.1.map kD), kv.2])) = (r.map (dRow nm)).map aD := by
      rw [List.map_map, List.map_map]
      refine List.map_congr_left fun p _ => ?_
      show aD (.tuple [.tuple ((kW p.1).map kD), eN nm p.2]) = _
      rw [kW_D]
      rfl
    rw [e]
    exact ⟨_, rfl, .frz fl⟩
  refine jb_tupX (is := [3, 4, 5]) (cs := [.val (aMK (toldM nm c)), .val (aMT (r.map (encR nm))), .mut (mL [])]) rfl (jxs_cons (jx_of (je_told H C0 hr (Nat.le_refl _) rfl m1 (je_v 0))) (jxs_cons (jx_of (je_dictT m1 rfl hr nd (je_call C0 hr (Nat.le_refl _) (ja_cons (je_v 2) ja_nil) tup))) (jxs_cons (jx_lst (jn_lst (ds := []) ja_nil)) jxs_nil))) (gns_cons 3 c_wrong.nd (gns_cons 4 c_wrong.nd (gns_cons 5 c_wrong.nd gns_nil))) (by decide) rfl (show 3 ≤ 64 by decide) ?_
  let δi : Option Cell → DSt := fun c6 => [some (.val (aD (dCh nm c))), some (.val (aI (n : Int))), some (.val (aD (dRd nm r))), some (.val (aMK (toldM nm c))), some (.val (aMT (r.map (encR nm)))), some (.mut (mL [])), c6, none]
  refine jb_cons (M := fun δ' => ∃ c6, δ' = δi c6) (js_for (I := fun i δ' => ∃ c6, δ' = δi c6) (ji_T (xs := c.evs n) (enc := eE nm) (je_call C1 hr (Nat.le_refl _) (ja_cons (je_v 0) (ja_cons (je_v 1) ja_nil)) ⟨c, n, ok, tl, hn, rfl, rfl⟩)) PassesOwn.never rfl ⟨none, rfl⟩ (fun i A δ' hA ⟨c6, e⟩ => ?_) (fun δ' h => h)) fun δ' ⟨c6, e⟩ => ?_
  · subst e
    rw [List.getElem?_map] at hA
    cases hxe : (c.evs n)[i]? with
    | none => rw [hxe] at hA; cases hA
    | some ev =>
      rw [hxe] at hA
      cases hA
      have hme := List.mem_of_getElem? hxe
      obtain ⟨hv, hvl⟩ := evs_ev ok (k := n) ev hme
      refine ⟨_, _, jg_name 6 c_wrong.nd, ?_⟩
      let δw : DSt := δi (some (.val (aD (eE nm ev))))
      refine jb_cons (M := fun d => ∃ c6, d = δi c6) (js_expr (δ1 := δw) (je_extend (ds := []) (es := []) (δ1 := δw) 5 rfl (JE.eq (JN.dat (jn_f (δ1 := δw) 7 (c.words ev) dW (fun _ => false) (fun w => .tuple [dW w, eE nm ev]) (ji_L (je_call C2 hr (Nat.le_refl _) (ja_cons (je_v 3) (ja_cons (je_v 6) ja_nil)) ⟨c, ev, ok, bt, hv, by omega, rfl, rfl⟩)) (blkOk_by (N := N_wrong) (sc := defScope s_wrong) (by decide +kernel)) (fun wd hwd _ _ _ _ _ => ?_) (fun wd hwd z => by cases z) rfl c_wrong.nd)) ?_) rfl (Nat.zero_le _)) ⟨_, rfl⟩) fun δ' h => jb_nil h
      · obtain ⟨i, hi, hie⟩ := rd.told ev hme wd hwd
        refine JT.eq (jt_notin (d := eN nm i) (ds := ev.map (eN nm)) (.inr rfl) (JE.eq (je_getT (kvs := r.map (encR nm)) (k := kW wd) (by show (A0.deeper _).units + 1 < cLine; omega) (je_v 4) (JE.eq (je_v 7) (kW_D wd).symm)) ?_) (je_v 6) rfl (flat_N ev)) ?_
        · rw [lk_R, hi]
          rfl
        · rw [any_N H.toNam, List.contains_iff_mem.mpr hie]
          rfl
      · rw [List.filter_eq_nil_iff.mpr fun _ _ => Bool.false_ne_true]
        rfl
  · subst e
    refine jb_frz (ds := []) 5 rfl (jb_ret (je_sorted (ds := []) [] (.inl rfl) ⟨(fun d hd => nomatch hd), .inl (fun d hd => nomatch hd), fun d hd => nomatch hd⟩ (List.Perm.refl _) List.Pairwise.nil m2 rfl hr (by show (A0.deeper _).units + 68 < cLine; omega) (je_v 5)) Ret.same)
/-! ### is_reader -/
abbrev s_isread : Stmt := topS 45
abbrev N_isread : List Str := ["chart", "long", "thing", "part"]
theorem c_isread : FnScope N_isread ["chart", "long", "thing"] (defScope s_isread) := ⟨rfl, rfl, rfl, by decide +kernel, rfl, by decide +kernel, by decide +kernel⟩
def R_isread (nm : Nat → Str) : Rl := fun As Z => ∃ (c : Ch) (k : Nat) (r : List (List Int × Nat)), c.Ok ∧ c.ti.length ≤ 20 ∧ k ≤ 2 ∧ c.Bit ∧ RdOk c k r ∧ As = [aD (dCh nm c), aI (k : Int), aD (dRd nm r)] ∧ Z = aB true
theorem f_isread (H : NamX nm) (F : Fun K "is_reader" "is_reader" s_isread f fd) (C1 : Cal P w K mg base k "is_told" (R_istold nm)) (C2 : Cal P w K mg base k "rises" R_rises) (C3 : Cal P w K mg base k "wrongly_told" (R_wrong nm)) (m1 : mg "isinstance" = none) (m2 : mg "tuple" = none) (m3 : mg "all" = none) (m4 : mg "len" = none) : FnOk P w K mg base CX0 (k + 1) f fd ["chart", "long", "thing"] (spJ (R_isread nm)) := by
  refine fn_j F c_isread (fun As Z ⟨i, _, _, _, _, _, _, _, e, _⟩ => by rw [e]; rfl) fun cdv A0 outer s H0 E As Z hr ⟨c, n, r, ok, tl, hn, bt, rd, e1, e2⟩ => ?_
  subst e1 e2
  refine jb_ifR (p := false) (jt_w (jw_or (p := false) (q := false) (jt_not (p := true) (jt_val (je_isi m1 (je_v 2) (je_ty m2 PyProof.Rows.boot_tuple) rfl))) fun _ => jw_or1 (jt_not (p := true) (JT.eq (jt_val (je_allC (xs := r) (b := fun _ => true) m3 rfl (jn_m 3 r (dRow nm) (fun _ => .bool true) (ji_T (je_v 2)) (blkOk_by (N := N_isread) (sc := defScope s_isread) (by decide +kernel)) (fun p hp _ _ _ _ _ => je_call C1 hr (Nat.le_refl _) (ja_cons (je_v 0) (ja_cons (je_v 3) ja_nil)) ⟨c, p, rd.row p hp, rfl, rfl⟩) rfl c_isread.nd))) ?_)))) (fun z => by cases z) fun _ => ?_
  · rw [List.all_eq_true]
    exact fun _ _ => rfl
  · refine jb_ret (je_and (p := true) (q := true) (je_call C2 hr (Nat.le_refl _) (ja_cons (JN.dat (jn_m 3 r (dRow nm) (fun p => dW p.1) (ji_T (je_v 2)) (blkOk_by (N := N_isread) (sc := defScope s_isread) (by decide +kernel)) (fun p hp _ _ _ _ _ => je_ixT (ds := [dW p.1, eN nm p.2]) (d := dW p.1) (je_v 3) je_int (atI_nat (j := 0) rfl)) rfl c_isread.nd)) ja_nil) ⟨_, _, .inr rfl, rfl, ?_, fun e he => ?_, fun e he g hg => ?_⟩) fun _ => je_one (je_eqI (je_lenL (ds := []) m4 (je_call C3 hr (Nat.le_refl _) (ja_cons (je_v 0) (ja_cons (je_v 1) (ja_cons (je_v 2) ja_nil))) ⟨c, n, r, ok, tl, hn, bt, rd, rfl, rfl⟩)) je_int)) Ret.same
    · have h := rises_map (enc := dW) (lt := ltW) ltD_W rd.asc
      rw [List.map_map] at h
      rw [show (fun p : List Int × Nat => dW p.1) = dW ∘ (fun p : List Int × Nat => p.1) from rfl, h]
    · obtain ⟨p, _, rfl⟩ := List.mem_map.mp he
      exact shp_W p.1
    · obtain ⟨p, _, rfl⟩ := List.mem_map.mp he
      obtain ⟨q, _, rfl⟩ := List.mem_map.mp hg
      exact cmp_W p.1 q.1
end
end J
/-! values_of, masks_of, shared. -/
namespace J
open PySem PySem.Spec L2
/-- the place of a number -/
def ixI : List Int → Int → Nat
  | [], _ => 0
  | x :: xs, v => if x = v then 0 else ixI xs v + 1
theorem ixI_at : ∀ {xs : List Int} {v : Int}, v ∈ xs → xs[ixI xs v]? = Option.some v ∧ ∀ m, m < ixI xs v → xs[m]? ≠ Option.some v
  | x :: xs, v, h => by
    rw [ixI]
    by_cases q : x = v
    · rw [if_pos q, q]
      exact ⟨rfl, fun m hm => absurd hm (Nat.not_lt_zero m)⟩
    · rw [if_neg q]
      have hv : v ∈ xs := (List.mem_cons.mp h).resolve_left fun z => q z.symm
      obtain ⟨h1, h2⟩ := ixI_at hv
      refine ⟨by rw [List.getElem?_cons_succ]; exact h1, fun m hm => ?_⟩
      cases m with
      | zero => exact fun z => q (by simpa using z)
      | succ m =>
        rw [List.getElem?_cons_succ]
        exact h2 m (by omega)
theorem ixI_lt {xs : List Int} {v : Int} (h : v ∈ xs) : ixI xs v < xs.length := (List.getElem?_eq_some_iff.mp (ixI_at h).1).1
/-- all values at a field -/
def Ch.fld (c : Ch) (j : Nat) : List Int := setI (c.col (List.range c.m) j)
def Ch.bitAt (c : Ch) (j i : Nat) : Nat := 2 ^ ixI (c.fld j) ((c.wd i).getD j 0)
def Ch.mask (c : Ch) (e : List Nat) (j : Nat) : Nat := e.foldl (fun m i => m ||| c.bitAt j i) 0
def Ch.masks (c : Ch) (e : List Nat) : List Nat := (List.range c.sz.length).map fun j => c.mask e j
def sharedM (a b : List Nat) : List Nat := (a.zip b).map fun q => q.1 &&& q.2
theorem fld_mem {c : Ch} {i j : Nat} (h : i < c.m) : (c.wd i).getD j 0 ∈ c.fld j := (setB_mem linI _ _).mpr (List.mem_map.mpr ⟨i, List.mem_range.mpr h, rfl⟩)
section
variable {P : Program} {w : World} {K : PySem.W.Frag} {mg : Str → Option Value} {base : Heap} {nm : Nat → Str} {f : Addr} {fd : FuncData} {k : Nat}
/-- set_of: a plain tuple -/
def R_setofF : Rl := fun As Z => ∃ xs : List Int, xs.length < 4000 ∧ As = [aD (dW xs)] ∧ Z = aTF ((setI xs).map aI)
theorem f_setofF (F : Fun K "set_of" "set_of" s_setof f fd) (m1 : mg "tuple" = none) (m2 : mg "sorted" = none) (m3 : mg "set" = none) : FnOk P w K mg base CX0 (k + 1) f fd ["things"] (spJ R_setofF) := by
  refine fn_j F c_setof (fun As Z ⟨xs, _, e, _⟩ => by rw [e]; rfl) fun cdv A outer s H0 E As Z hr ⟨xs, hl, e1, e2⟩ => ?_
  subst e1 e2
  have hu := hr.un
  have si := setIs_I xs
  have e : (setI xs).map aI = ((setI xs).map PyData.int).map aD := by rw [List.map_map]; rfl
  rw [e]
  exact jb_ret (je_tupleF m1 (je_LA (je_sortedSet (ds := xs.map PyData.int) ((setI xs).map PyData.int) (srt_I xs) (by rw [List.length_map]; exact hl) si.nd si.mem si.asc m2 rfl hr (by show (A.deeper _).units + 68 < cLine; omega) (je_set (.inr rfl) (.inr (.inl ⟨xs, rfl⟩)) (by rw [List.length_map]; exact hl) m3 rfl hr (je_v 0))))) Ret.same
/-! ### values_of -/
abbrev s_vals : Stmt := topS 47
abbrev N_vals : List Str := ["chart", "words", "name", "word", "row"]
theorem c_vals : FnScope N_vals ["chart"] (defScope s_vals) := ⟨rfl, rfl, rfl, by decide +kernel, rfl, by decide +kernel, by decide +kernel⟩
def Ch.valsA (c : Ch) : List AV := (List.range c.sz.length).map fun j => aTF ((c.fld j).map aI)
def R_vals (nm : Nat → Str) : Rl := fun As Z => ∃ c : Ch, c.Ok ∧ As = [aD (dCh nm c)] ∧ Z = aLA c.valsA
theorem cols_eq {c : Ch} (ok : c.Ok) (e : List Nat) : (cols (e.map fun i => (c.wd i).map PyData.int) c.sz.length).map (fun r => aD (.tuple r)) = (List.range c.sz.length).map fun j => aD (dW (c.col e j)) := by
  unfold cols
  rw [List.map_map]
  refine List.map_congr_left fun j hj => ?_
  show aD (.tuple ((e.map _).map _)) = aD (.tuple ((e.map _).map _))
  rw [List.map_map, List.map_map]
  refine congrArg (fun l => aD (.tuple l)) (List.map_congr_left fun x _ => ?_)
  have hx : j < (c.wd x).length := by rw [ok.w]; exact List.mem_range.mp hj
  show ((c.wd x).map PyData.int).getD j .none = .int ((c.wd x).getD j 0)
  rw [List.getD_eq_getElem?_getD, List.getElem?_map, List.getD_eq_getElem?_getD, List.getElem?_eq_getElem hx]
  rfl
theorem f_vals (F : Fun K "values_of" "values_of" s_vals f fd) (C0 : Cal P w K mg base k "tupled" (R_tupled 4)) (C1 : Cal P w K mg base k "set_of" R_setofF) (m1 : mg "zip" = none) : FnOk P w K mg base CX0 (k + 1) f fd ["chart"] (spJ (R_vals nm)) := by
  refine fn_j F c_vals (fun As Z ⟨i, _, e, _⟩ => by rw [e]; rfl) fun cdv A0 outer s H0 E As Z hr ⟨c, ok, e1, e2⟩ => ?_
  subst e1 e2
  have m5 := ok.m5
  have m1' := ok.m1
  have hz := ok.z
  let δ0 : DSt := d0 N_vals [aD (dCh nm c)]
  refine jb_lc (own := [("name", 2), ("word", 3)]) (ws := [2, 3]) 1 (List.range c.m) (dS nm c) (fun i => ((dwipe δ0 [2, 3]).set 2 (some (.val (aD (eN nm i))))).set 3 (some (.val (aD (dW (c.wd i)))))) (fun _ => true) (fun i => dW (c.wd i)) (ji_st (je_call C0 hr (Nat.le_refl _) (ja_cons (je_v 0) ja_nil) (tup_chart nm c))) (blkOk_by (N := N_vals) (sc := defScope s_vals) (by decide +kernel))
    (fun i hi => bg2 rfl c_vals.nd rfl rfl (.inl rfl) (.inl rfl) (.inr rfl) (.inr rfl)) (fun i hi _ _ _ _ _ => jts_nil) (fun i hi _ _ _ _ _ _ => je_v 3) (show 1 < 5 by decide) ?_ rfl c_vals.nd
  let rows : List (List PyData) := (List.range c.m).map fun i => (c.wd i).map PyData.int
  refine jb_ret (JNA.dat (jn_mA 4 (List.range c.sz.length) (fun j => aD (dW (c.col (List.range c.m) j))) (fun j => aTF ((c.fld j).map aI)) (JI.eq (ji_zipS (rows := rows) (n := c.sz.length) m1 (JE.eq (je_v 1) ?_) (fun r hr => ?_) (fun z => ?_) (by show ((List.range c.m).map _).length ≤ 6; rw [List.length_map, List.length_range]; omega) (by omega)) (cols_eq ok _)) (blkOk_by (N := N_vals) (sc := defScope s_vals) (by decide +kernel))
    (fun j hj _ _ _ _ _ => je_call C1 hr (Nat.le_refl _) (ja_cons (je_v 4) ja_nil) ⟨_, by unfold Ch.col; rw [List.length_map, List.length_range]; omega, rfl, rfl⟩) rfl c_vals.nd)) Ret.same
  · show PyData.list _ = PyData.list (((List.range c.m).map _).map _)
    rw [List.filter_eq_self.mpr fun _ _ => rfl, List.map_map]
    rfl
  · obtain ⟨i, _, rfl⟩ := List.mem_map.mp hr
    rw [List.length_map, ok.w]
  · have := congrArg List.length z
    rw [List.length_map, List.length_range] at this
    simp at this
    omega
/-! ### masks_of -/
abbrev dMk (ms : List Nat) : PyData := .list (ms.map fun (n : Nat) => .int (n : Int))
abbrev s_masks : Stmt := topS 48
abbrev N_masks : List Str := ["chart", "some", "told", "found", "field", "values", "mask", "name"]
theorem c_masks : FnScope N_masks ["chart", "some"] (defScope s_masks) := ⟨rfl, rfl, rfl, by decide +kernel, rfl, by decide +kernel, by decide +kernel⟩
def R_masks (nm : Nat → Str) : Rl := fun As Z => ∃ (c : Ch) (e : List Nat), c.Ok ∧ Ev c.m e ∧ As = [aD (dCh nm c), aD (eE nm e)] ∧ Z = aD (dMk (c.masks e))
theorem f_masks (H : NamX nm) (F : Fun K "masks_of" "masks_of" s_masks f fd) (C0 : Cal P w K mg base k "tupled" (R_tupled 4)) (C1 : Cal P w K mg base k "values_of" (R_vals nm)) (m1 : mg "dict" = none) (m2 : mg "enumerate" = none) : FnOk P w K mg base CX0 (k + 1) f fd ["chart", "some"] (spJ (R_masks nm)) := by
  refine fn_j F c_masks (fun As Z ⟨i, _, _, _, e, _⟩ => by rw [e]; rfl) fun cdv A0 outer s H0 E As Z hr ⟨c, e, ok, ev, e1, e2⟩ => ?_
  subst e1 e2
  have hu := hr.un
  have hz := ok.z
  have m5 := ok.m5
  refine jb_parX (c1 := .val (aMK (toldM nm c))) (c2 := .mut (mL [])) 2 3 rfl c_masks.nd (jxs_cons (jx_of (je_told H C0 hr (Nat.le_refl _) rfl m1 (je_v 0))) (jxs_cons (jx_lst (jn_lst (ds := []) ja_nil)) jxs_nil)) ?_
  let mk : Nat → PyData := fun j => .int ((c.mask e j : Nat) : Int)
  let δi : Nat → Option Cell → Option Cell → Option Cell → Option Cell → DSt := fun i c4 c5 c6 c7 => [some (.val (aD (dCh nm c))), some (.val (aD (eE nm e))), some (.val (aMK (toldM nm c))), some (.mut (mL ((List.range i).map mk))), c4, c5, c6, c7]
  refine jb_cons (M := fun δ' => ∃ c4 c5 c6 c7, δ' = δi c.sz.length c4 c5 c6 c7) (js_for (I := fun i δ' => i ≤ c.sz.length ∧ ∃ c4 c5 c6 c7, δ' = δi i c4 c5 c6 c7) (ji_enumL (As := c.valsA) m2 (je_call C1 hr (Nat.le_refl _) (ja_cons (je_v 0) ja_nil) ⟨c, ok, rfl, rfl⟩)) PassesOwn.never rfl ⟨Nat.zero_le _, none, none, none, none, rfl⟩ (fun i A δ' hA ⟨hi, c4, c5, c6, c7, e0⟩ => ?_) (fun δ' ⟨_, c4, c5, c6, c7, e0⟩ => ⟨c4, c5, c6, c7, ?_⟩)) fun δ' ⟨c4, c5, c6, c7, e0⟩ => ?_
  · subst e0
    obtain ⟨C, hC, rfl⟩ := enumA_at hA
    have hi2 : i < c.sz.length := by
      have := (List.getElem?_eq_some_iff.mp hC).1
      unfold Ch.valsA at this
      rw [List.length_map, List.length_range] at this
      exact this
    unfold Ch.valsA at hC
    rw [List.getElem?_map, List.getElem?_range hi2] at hC
    cases hC
    refine ⟨_, _, jg_TA rfl (jga_cons (jg_name 4 c_masks.nd) (jga_cons (jg_name 5 c_masks.nd) jga_nil)), ?_⟩
    refine jb_set (A := aI ((0 : Nat) : Int)) 6 c_masks.nd je_int ?_
    let mAt : Nat → Nat := fun n => (e.take n).foldl (fun m i' => m ||| c.bitAt i i') 0
    let δm : Nat → Option Cell → DSt := fun n c7 => δi i (some (.val (aI (i : Nat)))) (some (.val (aTF ((c.fld i).map aI)))) (some (.val (aI ((mAt n : Nat) : Int)))) c7
    refine jb_cons (M := fun d => ∃ c7, d = δm e.length c7) (js_for (I := fun n δ' => ∃ c7, δ' = δm n c7) (ji_T (xs := e) (enc := eN nm) (je_v 1)) PassesOwn.never rfl ⟨c7, rfl⟩ (fun n A δ' hA ⟨c7, e0⟩ => ?_) (fun δ' ⟨c7, e0⟩ => ⟨c7, by rw [e0, List.length_map]⟩)) fun δ' ⟨c7, e0⟩ => ?_
    · subst e0
      rw [List.getElem?_map] at hA
      cases hxe : e[n]? with
      | none => rw [hxe] at hA; cases hA
      | some x =>
        rw [hxe] at hA
        cases hA
        refine ⟨_, _, jg_name 7 c_masks.nd, ?_⟩
        have hx := ev.lt x (List.mem_of_getElem? hxe)
        have hwl : i < (c.wd x).length := by rw [ok.w]; exact hi2
        have hm := fld_mem (c := c) (j := i) hx
        obtain ⟨q1, q2⟩ := ixI_at hm
        have hk := ixI_lt hm
        have hfl : (c.fld i).length ≤ 5 := by
          have h1 := List.Nodup.length_le_of_subset (l₂ := c.col (List.range c.m) i) (asc_nodup linI (setB_asc linI _)) fun y hy => (setB_mem linI y _).mp hy
          unfold Ch.col at h1
          rw [List.length_map, List.length_range] at h1
          exact Nat.le_trans h1 m5
        have en : mAt (n + 1) = mAt n ||| c.bitAt i x := by
          show (e.take (n + 1)).foldl _ 0 = _
          rw [List.take_add_one, hxe, List.foldl_append]
          rfl
        refine jb_set (A := aI ((mAt (n + 1) : Nat) : Int)) 6 c_masks.nd (JE.eq (je_bor (n := mAt n) (m := 2 ^ ixI (c.fld i) ((c.wd x).getD i 0)) (je_v 6) (je_shl1 (k := ixI (c.fld i) ((c.wd x).getD i 0)) je_int (je_index (ns := c.fld i) (i := (c.wd x).getD i 0) (je_v 5) (je_ixT (ds := (c.wd x).map PyData.int) (d := .int ((c.wd x).getD i 0)) (je_dgetK (k := kN nm x) (by show (A0.deeper _).units + 1 < cLine; omega) (je_v 2) (je_v 7) (lk_range H hx _)) (je_v 4) (atI_nat (j := i) ?_)) q1 q2) (by omega))) (by rw [en]; rfl)) (jb_nil ⟨_, rfl⟩)
        rw [List.getElem?_map, List.getElem?_eq_getElem hwl, List.getD_eq_getElem?_getD, List.getElem?_eq_getElem hwl]
        rfl
    · subst e0
      have em : mAt e.length = c.mask e i := by
        show (e.take e.length).foldl _ 0 = _
        rw [List.take_length]
        rfl
      refine jb_cons (M := fun d => i + 1 ≤ c.sz.length ∧ ∃ c4 c5 c6 c7, d = δi (i + 1) c4 c5 c6 c7) (js_expr (je_append (ds := (List.range i).map mk) (d := mk i) 3 rfl (JE.eq (je_v 6) (by show PyData.int _ = PyData.int _; rw [em])) rfl (by rw [List.length_map, List.length_range]; exact small (by omega))) ⟨hi2, some (.val (aI (i : Nat))), some (.val (aTF ((c.fld i).map aI))), some (.val (aI ((mAt e.length : Nat) : Int))), c7, ?_⟩) fun δ' h => jb_nil h
      have er : (List.range (i + 1)).map mk = (List.range i).map mk ++ [mk i] := by rw [List.range_succ, List.map_append]; rfl
      rw [← er]
      rfl
  · rw [e0]
    unfold enumA Ch.valsA
    rw [List.length_map, List.length_zipIdx, List.length_map, List.length_range]
  · subst e0
    refine jb_frz (ds := (List.range c.sz.length).map mk) 3 rfl (jb_ret (JE.eq (je_v 3) ?_) Ret.same)
    show PyData.list _ = PyData.list (((List.range c.sz.length).map _).map _)
    rw [List.map_map]
    rfl
/-! ### shared -/
abbrev s_shared : Stmt := topS 49
abbrev N_shared : List Str := ["one", "other", "near", "far"]
theorem c_shared : FnScope N_shared ["one", "other"] (defScope s_shared) := ⟨rfl, rfl, rfl, by decide +kernel, rfl, by decide +kernel, by decide +kernel⟩
def R_shared : Rl := fun As Z => ∃ a b : List Nat, As = [aD (dMk a), aD (dMk b)] ∧ Z = aD (dMk (sharedM a b))
theorem f_shared (F : Fun K "shared" "shared" s_shared f fd) (m1 : mg "zip" = none) : FnOk P w K mg base CX0 (k + 1) f fd ["one", "other"] (spJ R_shared) := by
  refine fn_j F c_shared (fun As Z ⟨i, _, e, _⟩ => by rw [e]; rfl) fun cdv A0 outer s H0 E As Z hr ⟨a, b, e1, e2⟩ => ?_
  subst e1 e2
  refine jb_ret (JE.eq (JN.dat (jn_t2 2 3 (a.zip b) (fun q => .int (q.1 : Int)) (fun q => .int (q.2 : Int)) (fun q => .int ((q.1 &&& q.2 : Nat) : Int)) (JI.eq (ji_zip m1 (je_v 0) (je_v 1)) ?_) (blkOk_by (N := N_shared) (sc := defScope s_shared) (by decide +kernel)) (fun q hq _ _ _ _ _ => je_band (je_v 2) (je_v 3)) rfl c_shared.nd)) ?_) Ret.same
  · rw [List.zip_map, List.map_map]
    rfl
  · show PyData.list _ = PyData.list ((List.map _ _).map _)
    rw [List.map_map]
    rfl
end
end J
/-! family_from of right, bare_family, is_right. -/
namespace J
open PySem PySem.Spec L2
abbrev Row := List Nat × List Nat
/-- more events that show one word, without a common state -/
def famR (rows : List Row) : Nat → List Nat → List Nat → List (List Nat) → Option (List (List Nat) × List Nat)
  | _, [], masks, picked => Option.some (picked, masks)
  | 0, _ :: _, _, _ => none
  | n + 1, x :: xs, masks, picked => rows.findSome? fun r => if !r.1.contains x && !(sharedM masks r.2).contains 0 then famR rows n ((x :: xs).filter fun y => r.1.contains y) (sharedM masks r.2) (picked ++ [r.1]) else none
def bareM (rows : List Row) (n : Nat) : Option (List (List Nat) × List Nat) := rows.zipIdx.findSome? fun q => famR (rows.drop (q.2 + 1)) n q.1.1 q.1.2 [q.1.1]
def Ch.rowsM (c : Ch) (k : Nat) : List Row := (c.evs k).map fun e => (e, c.masks e)
section
variable {P : Program} {w : World} {K : PySem.W.Frag} {mg : Str → Option Value} {base : Heap} {nm : Nat → Str} {f : Addr} {fd : FuncData} {k : Nat}
abbrev dRw (nm : Nat → Str) (r : Row) : PyData := .tuple [eE nm r.1, dMk r.2]
abbrev dRws (nm : Nat → Str) (rs : List Row) : PyData := .list (rs.map (dRw nm))
abbrev dNL (nm : Nat → Str) (e : List Nat) : PyData := .list (e.map (eN nm))
def optF (nm : Nat → Str) : Option (List (List Nat) × List Nat) → PyData
  | Option.some p => .tuple [eLs nm p.1, dMk p.2]
  | none => .none
theorem any_0 (ms : List Nat) : ((ms.map fun (n : Nat) => PyData.int (n : Int)).any fun y => eqF y (.int 0)) = ms.contains 0 := by
  rw [List.any_map]
  induction ms with
  | nil => rfl
  | cons a l ih =>
    rw [List.any_cons, ih, List.contains_cons]
    congr 1
    show ((a : Int) == 0) = (0 == a)
    by_cases h : a = 0
    · subst h; rfl
    · rw [beq_eq_false_iff_ne.mpr (by omega), beq_eq_false_iff_ne.mpr (by omega)]
theorem flat_I (ms : List Nat) : (ms.map fun (n : Nat) => PyData.int (n : Int)).all flatD = true := by
  rw [List.all_map, List.all_eq_true]
  exact fun _ _ => rfl
theorem len0N (e : List Nat) : (((e.map (eN nm)).length : Int) == 0) = e.isEmpty := by
  rw [List.length_map]
  cases e with
  | nil => rfl
  | cons a l =>
    show _ = false
    rw [List.length_cons, beq_eq_false_iff_ne]
    omega
abbrev s_famr : Stmt := topS 50
abbrev N_famr : List Str := ["rows", "common", "masks", "picked", "left", "event", "own", "both", "rest", "name", "found"]
theorem c_famr : FnScope N_famr ["rows", "common", "masks", "picked", "left"] (defScope s_famr) := ⟨rfl, rfl, rfl, by decide +kernel, rfl, by decide +kernel, by decide +kernel⟩
def R_famr (nm : Nat → Str) (n : Nat) : Rl := fun As Z => ∃ (rs : List Row) (cm ms : List Nat) (pk : List (List Nat)), pk.length + n ≤ 100 ∧ As = [aD (dRws nm rs), aD (dNL nm cm), aD (dMk ms), aD (eLs nm pk), aI (n : Int)] ∧ Z = aD (optF nm (famR rs n cm ms pk))
theorem f_famr (H : NamX nm) (F : Fun K "family_from" "family_from" s_famr f fd) (g : mg "family_from_right" = some (.ref f)) (kp : PySem.W.keepIn K (.ref f) = true) (bd : Binds K fd ["rows", "common", "masks", "picked", "left"] []) (C1 : Cal P w K mg base k "shared" R_shared) (m1 : mg "len" = none) :
    ∀ n, FnOk P w K mg base CX0 (k + n + 1) f fd ["rows", "common", "masks", "picked", "left"] (spJ (R_famr nm n)) := by
  intro n
  induction n with
  | zero =>
    refine fn_j F c_famr (fun As Z ⟨_, _, _, _, _, e, _⟩ => by rw [e]; rfl) fun cdv A0 outer s H0 E As Z hr ⟨rs, cm, ms, pk, hn, e1, e2⟩ => ?_
    subst e1 e2
    refine jb_ifR (p := cm.isEmpty) (JT.eq (jt_cmp op_eq rop_eqI (je_lenL m1 (je_v 1)) je_int) (len0N cm)) (fun h => ?_) fun h => ?_
    · rw [List.isEmpty_iff.mp h, famR]
      exact jb_ret (je_tup (ds := [eLs nm pk, dMk ms]) (ja_cons (je_v 3) (ja_cons (je_v 2) ja_nil))) Ret.same
    · refine jb_ifR (p := true) (jt_cmp op_eq rop_eqI (je_v 4) je_int) (fun _ => ?_) (fun z => by cases z)
      cases cm with
      | nil => cases h
      | cons p ps =>
        rw [famR]
        exact jb_ret je_non Ret.same
  | succ n ih =>
    have C0 : Cal P w K mg base (k + n + 1) "family_from_right" (R_famr nm n) := ⟨f, fd, _, ih, g, kp, bd⟩
    refine fn_j F c_famr (fun As Z ⟨_, _, _, _, _, e, _⟩ => by rw [e]; rfl) fun cdv A0 outer s H0 E As Z hr ⟨rs, cm0, ms, pk, hn, e1, e2⟩ => ?_
    subst e1 e2
    refine jb_ifR (p := cm0.isEmpty) (JT.eq (jt_cmp op_eq rop_eqI (je_lenL m1 (je_v 1)) je_int) (len0N cm0)) (fun h => ?_) fun h => ?_
    · rw [List.isEmpty_iff.mp h, famR]
      exact jb_ret (je_tup (ds := [eLs nm pk, dMk ms]) (ja_cons (je_v 3) (ja_cons (je_v 2) ja_nil))) Ret.same
    · refine jb_ifR (p := false) (JT.eq (jt_cmp op_eq rop_eqI (je_v 4) je_int) (by simp; omega)) (fun z => by cases z) (fun _ => ?_)
      cases cm0 with
      | nil => cases h
      | cons x xs =>
      rw [famR]
      obtain ⟨cm, hcm⟩ : ∃ cm, cm = x :: xs := ⟨_, rfl⟩
      let gE : Row → Option (List (List Nat) × List Nat) := fun r => if !r.1.contains x && !(sharedM ms r.2).contains 0 then famR rs n (cm.filter fun y => r.1.contains y) (sharedM ms r.2) (pk ++ [r.1]) else none
      rw [← hcm]
      show JB _ _ _ (Ret (aD (optF nm (rs.findSome? gE))))
      let δi : Option Cell → Option Cell → Option Cell → Option Cell → Option Cell → DSt := fun c5 c6 c7 c8 c10 => [some (.val (aD (dRws nm rs))), some (.val (aD (dNL nm cm))), some (.val (aD (dMk ms))), some (.val (aD (eLs nm pk))), some (.val (aI ((n + 1 : Nat) : Int))), c5, c6, c7, c8, none, c10]
      refine jb_cons (M := fun δ' => (∀ e ∈ rs, gE e = none) ∧ ∃ c5 c6 c7 c8 c10, δ' = δi c5 c6 c7 c8 c10) (js_for (I := fun i δ' => (∀ e ∈ rs.take i, gE e = none) ∧ ∃ c5 c6 c7 c8 c10, δ' = δi c5 c6 c7 c8 c10) (ji_L (xs := rs) (enc := dRw nm) (je_v 0)) PassesOwn.never rfl ⟨(fun e he => by simp at he), none, none, none, none, none, rfl⟩ (fun i A δ' hA ⟨hi, c5, c6, c7, c8, c10, e⟩ => ?_) (fun δ' ⟨hi, c5, c6, c7, c8, c10, e⟩ => ⟨?_, c5, c6, c7, c8, c10, e⟩)) fun δ' ⟨hi, c5, c6, c7, c8, c10, e⟩ => ?_
      · subst e
        rw [List.getElem?_map] at hA
        cases hxe : rs[i]? with
        | none => rw [hxe] at hA; cases hA
        | some r =>
          rw [hxe] at hA
          cases hA
          obtain ⟨ev, own⟩ := r
          refine ⟨_, _, jg_tup rfl (jgs_cons (jg_name 5 c_famr.nd) (jgs_cons (jg_name 6 c_famr.nd) jgs_nil)), ?_⟩
          let δe : Option Cell → Option Cell → Option Cell → DSt := fun c7 c8 c10 => δi (some (.val (aD (eE nm ev)))) (some (.val (aD (dMk own)))) c7 c8 c10
          have last : gE (ev, own) = none → ∀ {c7' c8' c10' : Option Cell}, ((∀ e ∈ rs.take (i + 1), gE e = none) ∧ ∃ c5 c6 c7 c8 c10, δe c7' c8' c10' = δi c5 c6 c7 c8 c10) := fun hn {_ _ _} => ⟨fun e he => by
            rw [List.take_add_one, hxe] at he
            rcases List.mem_append.mp he with he | he
            · exact hi e he
            · have e2 : e = (ev, own) := by simpa using he
              rw [e2]
              exact hn, _, _, _, _, _, rfl⟩
          show JB _ _ (δe c7 c8 c10) _
          refine jb_cons (M := fun d => (∀ e ∈ rs.take (i + 1), gE e = none) ∧ ∃ c5 c6 c7 c8 c10, d = δi c5 c6 c7 c8 c10) (js_if (p := !ev.contains x) (δ1 := δe c7 c8 c10) (JT.eq (jt_notin (d := eN nm x) (ds := ev.map (eN nm)) (.inr rfl) (je_ixL (ds := cm.map (eN nm)) (d := eN nm x) (je_v 1) je_int (by rw [hcm]; exact atI_nat (j := 0) rfl)) (je_v 5) rfl (flat_N ev)) (by rw [any_N H.toNam])) (fun hq => ?_) fun hq => jb_nil (last (if_neg (by
            show ¬ ((!ev.contains x) && !(sharedM ms own).contains 0) = true
            rw [show (!ev.contains x) = false from hq, Bool.false_and]
            exact Bool.false_ne_true)))) fun δ' h => jb_nil h
          refine jb_set (A := aD (dMk (sharedM ms own))) 7 c_famr.nd (je_call C1 hr (by omega) (ja_cons (je_v 2) (ja_cons (je_v 6) ja_nil)) ⟨ms, own, rfl, rfl⟩) ?_
          let δf : Option Cell → Option Cell → DSt := fun c8 c10 => δe (some (.val (aD (dMk (sharedM ms own))))) c8 c10
          show JB _ _ (δf c8 c10) _
          refine jb_cons (M := fun d => (∀ e ∈ rs.take (i + 1), gE e = none) ∧ ∃ c5 c6 c7 c8 c10, d = δi c5 c6 c7 c8 c10) (js_if (p := !(sharedM ms own).contains 0) (δ1 := δf c8 c10) (JT.eq (jt_notin (d := .int 0) (ds := (sharedM ms own).map fun (n : Nat) => .int (n : Int)) (.inl rfl) je_int (je_v 7) rfl (flat_I _)) (by rw [any_0])) (fun hq2 => ?_) fun hq2 => jb_nil (last (if_neg (by
            show ¬ ((!ev.contains x) && !(sharedM ms own).contains 0) = true
            rw [show (!(sharedM ms own).contains 0) = false from hq2, Bool.and_false]
            exact Bool.false_ne_true)))) fun δ' h => jb_nil h
          have hg : gE (ev, own) = famR rs n (cm.filter fun y => ev.contains y) (sharedM ms own) (pk ++ [ev]) := if_pos (by
            show ((!ev.contains x) && !(sharedM ms own).contains 0) = true
            rw [hq, hq2]
            rfl)
          refine jb_lc (own := [("name", 9)]) (ws := [9]) 8 cm (eN nm) (fun y => (dwipe (δf c8 c10) [9]).set 9 (some (.val (aD (eN nm y))))) (fun y => ev.contains y) (eN nm) (ji_L (je_v 1)) (blkOk_by (N := N_famr) (sc := defScope s_famr) (by decide +kernel)) (fun y hy s0 H1 Cc cl fp => jg_of (gn_mk c_famr.nd rfl (.inl rfl) (.inr rfl) s0 H1 Cc cl fp)) (fun y hy _ _ _ _ _ => jts_one (JT.eq (jt_in (ds := ev.map (eN nm)) (.inr rfl) (je_v 9) (je_v 5) rfl (flat_N ev)) (by rw [any_N H.toNam]))) (fun y hy _ _ _ _ _ _ => je_v 9) (show 8 < 11 by decide) ?_ rfl c_famr.nd
          let cm2 := cm.filter fun y => ev.contains y
          let δg : Option Cell → DSt := fun c10 => δf (some (.val (aD (dNL nm cm2)))) c10
          show JB _ _ (δg c10) _
          refine jb_set (A := aD (optF nm (famR rs n cm2 (sharedM ms own) (pk ++ [ev])))) 10 c_famr.nd (je_call C0 hr (by omega) (ja_cons (je_v 0) (ja_cons (je_v 8) (ja_cons (je_v 7) (ja_cons (je_lst (ds := (pk ++ [ev]).map (eE nm)) (by rw [List.map_append, List.map_append]; exact ja_star (.inl rfl) (je_v 3) (ja_cons (je_v 5) ja_nil)) (by rw [List.length_map, List.length_append]; exact small (by show pk.length + 1 ≤ 1000; omega))) (ja_cons (JE.eq (je_sub (je_v 4) je_int) (d' := .int (n : Int)) (by simp)) ja_nil))))) ⟨rs, cm2, sharedM ms own, pk ++ [ev], by rw [List.length_append]; show pk.length + 1 + n ≤ 100; omega, rfl, rfl⟩) ?_
          cases hf : famR rs n cm2 (sharedM ms own) (pk ++ [ev]) with
          | none =>
            refine jb_ifR (p := false) (JT.eq (jt_isnot (je_v 10)) (by rfl)) (fun z => by cases z) fun _ => jb_nil (last (hg.trans hf) (c7' := some (.val (aD (dMk (sharedM ms own))))) (c8' := some (.val (aD (dNL nm cm2)))) (c10' := some (.val (aD (optF nm none)))))
          | some p =>
            refine jb_ifR (p := true) (JT.eq (jt_isnot (je_v 10)) (by rfl)) (fun _ => ?_) fun z => by cases z
            rw [findSome_take hxe hi (hg.trans hf)]
            exact jb_ret (je_v 10) (fun _ _ h => h)
      · rw [List.length_map, List.take_length] at hi
        exact hi
      · subst e
        rw [List.findSome?_eq_none_iff.mpr hi]
        exact jb_ret je_non Ret.same
/-! ### bare_family -/
abbrev s_bare : Stmt := topS 52
abbrev N_bare : List Str := ["chart", "long", "rows", "event", "place", "own", "found"]
theorem c_bare : FnScope N_bare ["chart", "long"] (defScope s_bare) := ⟨rfl, rfl, rfl, by decide +kernel, rfl, by decide +kernel, by decide +kernel⟩
def R_bare (nm : Nat → Str) : Rl := fun As Z => ∃ (c : Ch) (k : Nat), c.Ok ∧ c.ti.length ≤ 20 ∧ k ≤ 2 ∧ As = [aD (dCh nm c), aI (k : Int)] ∧ Z = aD (optF nm (bareM (c.rowsM k) (k + 1)))
theorem f_bare (H : NamX nm) (F : Fun K "bare_family" "bare_family" s_bare f fd) (C1 : Cal P w K mg base k "events" (R_events nm)) (C2 : Cal P w K mg base k "masks_of" (R_masks nm)) (C3 : ∀ n, n ≤ 3 → Cal P w K mg base k "family_from_right" (R_famr nm n)) (m1 : mg "enumerate" = none) (m2 : mg "list" = none) : FnOk P w K mg base CX0 (k + 1) f fd ["chart", "long"] (spJ (R_bare nm)) := by
  refine fn_j F c_bare (fun As Z ⟨i, _, _, _, _, e, _⟩ => by rw [e]; rfl) fun cdv A0 outer s H0 E As Z hr ⟨c, n, ok, tl, hn, e1, e2⟩ => ?_
  subst e1 e2
  have hes := fun e he => (evs_ev ok (k := n) e he).1
  let δ0 : DSt := d0 N_bare [aD (dCh nm c), aI (n : Int)]
  refine jb_lc (own := [("event", 3)]) (ws := [3]) 2 (c.evs n) (eE nm) (fun e => (dwipe δ0 [3]).set 3 (some (.val (aD (eE nm e))))) (fun _ => true) (fun e => dRw nm (e, c.masks e)) (ji_T (je_call C1 hr (Nat.le_refl _) (ja_cons (je_v 0) (ja_cons (je_v 1) ja_nil)) ⟨c, n, ok, tl, hn, rfl, rfl⟩)) (blkOk_by (N := N_bare) (sc := defScope s_bare) (by decide +kernel)) (fun e he s0 H1 Cc cl fp => jg_of (gn_mk c_bare.nd rfl (.inl rfl) (.inr rfl) s0 H1 Cc cl fp)) (fun e he _ _ _ _ _ => jts_nil) (fun e he _ _ _ _ _ _ => je_tup (ds := [eE nm e, dMk (c.masks e)]) (ja_cons (je_v 3) (ja_cons (je_call C2 hr (Nat.le_refl _) (ja_cons (je_v 0) (ja_cons (je_v 3) ja_nil)) ⟨c, e, ok, hes e he, rfl, rfl⟩) ja_nil))) (show 2 < 7 by decide) ?_ rfl c_bare.nd
  obtain ⟨rs, hrs⟩ : ∃ rs, rs = c.rowsM n := ⟨_, rfl⟩
  have er : (List.filter (fun _ => true) (c.evs n)).map (fun e => dRw nm (e, c.masks e)) = rs.map (dRw nm) := by
    rw [List.filter_eq_self.mpr fun _ _ => rfl, hrs]
    unfold Ch.rowsM
    rw [List.map_map]
    rfl
  rw [er, ← hrs]
  let gE : Row × Nat → Option (List (List Nat) × List Nat) := fun q => famR (rs.drop (q.2 + 1)) (n + 1) q.1.1 q.1.2 [q.1.1]
  show JB _ _ _ (Ret (aD (optF nm (rs.zipIdx.findSome? gE))))
  let δi : Option Cell → Option Cell → Option Cell → Option Cell → DSt := fun c3 c4 c5 c6 => [some (.val (aD (dCh nm c))), some (.val (aI (n : Int))), some (.val (aD (dRws nm rs))), c3, c4, c5, c6]
  refine jb_cons (M := fun δ' => (∀ e ∈ rs.zipIdx, gE e = none) ∧ ∃ c3 c4 c5 c6, δ' = δi c3 c4 c5 c6) (js_for (I := fun i δ' => (∀ e ∈ rs.zipIdx.take i, gE e = none) ∧ ∃ c3 c4 c5 c6, δ' = δi c3 c4 c5 c6) (ji_enumL (As := (rs.map (dRw nm)).map aD) m1 (je_LA (je_v 2))) PassesOwn.never rfl ⟨(fun e he => by simp at he), none, none, none, none, rfl⟩ (fun i A δ' hA ⟨hi, c3, c4, c5, c6, e⟩ => ?_) (fun δ' ⟨hi, c3, c4, c5, c6, e⟩ => ⟨?_, c3, c4, c5, c6, e⟩)) fun δ' ⟨hi, c3, c4, c5, c6, e⟩ => ?_
  · subst e
    obtain ⟨C, hC, rfl⟩ := enumA_at hA
    rw [List.getElem?_map, List.getElem?_map] at hC
    cases hxe : rs[i]? with
    | none => rw [hxe] at hC; cases hC
    | some r =>
      rw [hxe] at hC
      cases hC
      obtain ⟨ev, own⟩ := r
      have hz : rs.zipIdx[i]? = some ((ev, own), i) := by rw [List.getElem?_zipIdx, hxe]; simp
      refine ⟨_, _, jg_TA rfl (jga_cons (jg_name 4 c_bare.nd) (jga_cons (jg_tup rfl (jgs_cons (jg_name 3 c_bare.nd) (jgs_cons (jg_name 5 c_bare.nd) jgs_nil))) jga_nil)), ?_⟩
      have last : gE ((ev, own), i) = none → ∀ {c6' : Option Cell}, ((∀ e ∈ rs.zipIdx.take (i + 1), gE e = none) ∧ ∃ c3 c4 c5 c6, δi (some (.val (aD (eE nm ev)))) (some (.val (aI (i : Nat)))) (some (.val (aD (dMk own)))) c6' = δi c3 c4 c5 c6) := fun hn {_} => ⟨fun e he => by
        rw [List.take_add_one, hz] at he
        rcases List.mem_append.mp he with he | he
        · exact hi e he
        · have e2 : e = ((ev, own), i) := by simpa using he
          rw [e2]
          exact hn, _, _, _, _, rfl⟩
      refine jb_set (A := aD (optF nm (famR (rs.drop (i + 1)) (n + 1) ev own [ev]))) 6 c_bare.nd (je_call (C3 (n + 1) (by omega)) hr (Nat.le_refl _) (ja_cons (JE.eq (je_slL (ds := rs.map (dRw nm)) (je_v 2) (jo_some (je_add (je_v 4) je_int)) jo_none) (d' := dRws nm (rs.drop (i + 1))) ?_) (ja_cons (JN.dat (jn_list (ds := ev.map (eN nm)) (.inr rfl) m2 (je_v 3))) (ja_cons (je_v 5) (ja_cons (je_lst (ds := [eE nm ev]) (ja_cons (je_v 3) ja_nil)) (ja_cons (JE.eq (je_add (je_v 1) je_int) (d' := .int ((n + 1 : Nat) : Int)) (by simp)) ja_nil))))) ⟨rs.drop (i + 1), ev, own, [ev], by show 1 + (n + 1) ≤ 100; omega, rfl, rfl⟩) ?_
      · have h := cutD_from (ds := rs.map (dRw nm)) (i + 1)
        rw [← List.map_drop] at h
        exact congrArg PyData.list h
      · cases hf : famR (rs.drop (i + 1)) (n + 1) ev own [ev] with
        | none => exact jb_ifR (p := false) (JT.eq (jt_isnot (je_v 6)) (by rfl)) (fun z => by cases z) fun _ => jb_nil (last hf (c6' := some (.val (aD (optF nm none)))))
        | some p =>
          refine jb_ifR (p := true) (JT.eq (jt_isnot (je_v 6)) (by rfl)) (fun _ => ?_) fun z => by cases z
          rw [findSome_take hz hi (g := gE) (b := p) hf]
          exact jb_ret (je_v 6) (fun _ _ h => h)
  · have hl : ((rs.map (dRw nm)).map aD).length = rs.zipIdx.length := by rw [List.length_map, List.length_map, List.length_zipIdx]
    rw [enumA_len, hl, List.take_length] at hi
    exact hi
  · subst e
    rw [List.findSome?_eq_none_iff.mpr hi]
    exact jb_ret je_non Ret.same
/-! ### is_right -/
abbrev s_isright : Stmt := topS 53
theorem c_isright : FnScope ["chart", "long"] ["chart", "long"] (defScope s_isright) := ⟨rfl, rfl, rfl, by decide +kernel, rfl, by decide +kernel, by decide +kernel⟩
def R_isright (nm : Nat → Str) : Rl := fun As Z => ∃ (c : Ch) (k : Nat), c.Ok ∧ c.ti.length ≤ 20 ∧ k ≤ 2 ∧ As = [aD (dCh nm c), aI (k : Int)] ∧ Z = aB (bareM (c.rowsM k) (k + 1)).isNone
theorem f_isright (F : Fun K "is_right" "is_right" s_isright f fd) (C1 : Cal P w K mg base k "bare_family" (R_bare nm)) : FnOk P w K mg base CX0 (k + 1) f fd ["chart", "long"] (spJ (R_isright nm)) := by
  refine fn_j F c_isright (fun As Z ⟨i, _, _, _, _, e, _⟩ => by rw [e]; rfl) fun cdv A0 outer s H0 E As Z hr ⟨c, n, ok, tl, hn, e1, e2⟩ => ?_
  subst e1 e2
  refine jb_ret (JE.eq (je_is (je_call C1 hr (Nat.le_refl _) (ja_cons (je_v 0) (ja_cons (je_v 1) ja_nil)) ⟨c, n, ok, tl, hn, rfl, rfl⟩)) ?_) Ret.same
  cases bareM (c.rowsM n) (n + 1) <;> rfl
end
end J
/-! Lists of one's own: read, popped, stored into. -/
namespace J
open PySem PySem.Spec L2
section
variable {X : Cx} {δ δ1 δ2 : DSt} {e i : Expr} {pos p py apos cpos : Pos} {y : Str} {ds : List PyData} {d : PyData} {O : Out} {sts : List Stmt}
theorem je_lenO (n : Nat) (h : δ[n]? = some (some (.mut (mL ds)))) (hm : X.mg "len" = none) (hg : Gl X "len" := by rfl) (hN : X.N[n]? = some y := by rfl) (hv : Vis X.env.scope y := by first | exact Or.inl rfl | exact Or.inr (Or.inl rfl) | exact Or.inr (Or.inr rfl)) (hd : (y == ("__debug__" : Str)) = false := by decide) (hcd : (y == ("__classdict__" : Str)) = false := by decide)
    (he : starEach [.Name y py] X.env = (false, eval (.Name y py) X.env) :: starEach [] X.env := by rfl) : JE X (.Call (.Name "len" p) [.Name y py] [] pos) δ δ (aI ds.length) :=
  PE.imp (pe_callB call_len_seq hg hm boot_len (pa_cons (pe_var hN hv hd hcd) pa_nil he) (by decide) (by decide) he rfl) fun σ H Q ⟨F, B, E, q⟩ => by
    obtain ⟨a, vs, e1, e2, _, _, dv, hl⟩ := E.own h
    exact ⟨.ref a, e1, a, vs, rfl, .inl (SqL.of e2), by rw [dv.len]; exact q _ B H E (Same.refl B) (.int _)⟩
theorem je_ixO {j : Int} (n : Nat) (h : δ[n]? = some (some (.mut (mL ds)))) (hi : JE X i δ δ (aI j)) (hd' : atI ds j = some d) (hN : X.N[n]? = some y := by rfl) (hv : Vis X.env.scope y := by first | exact Or.inl rfl | exact Or.inr (Or.inl rfl) | exact Or.inr (Or.inr rfl)) (hd : (y == ("__debug__" : Str)) = false := by decide) (hcd : (y == ("__classdict__" : Str)) = false := by decide) (hs : PlainIx i := by exact fun _ _ => rfl) :
    JE X (.Subscript (.Name y p) i pos) δ δ (aD d) :=
  PE.imp (pe_ix ix_list (pe_var hN hv hd hcd) hi hs) fun σ H Q ⟨F, B, E, q⟩ => by
    obtain ⟨a, vs, e1, e2, _, _, dv, hl⟩ := E.own h
    refine ⟨.ref a, e1, F, B, E, fun y B2 H2 E2 s2 a2 => ?_⟩
    obtain ⟨a', vs', f1, f2, _, _, dv', hl'⟩ := E2.own h
    rw [e1] at f1
    cases f1
    obtain ⟨v, g1, g2⟩ := atD dv' hd'
    exact ⟨a, vs', j, v, rfl, Dd.int_eq a2, SqL.of f2, g1, q _ B2 H2 E2 s2 g2⟩
theorem jt_notinO (n : Nat) (h : δ[n]? = some (some (.mut (mL ds)))) (ha : JE X e δ δ (aD d)) (f : flatD d = true) (fs : ds.all flatD = true) (hN : X.N[n]? = some y := by rfl) (hv : Vis X.env.scope y := by first | exact Or.inl rfl | exact Or.inr (Or.inl rfl) | exact Or.inr (Or.inr rfl)) (hd : (y == ("__debug__" : Str)) = false := by decide) (hcd : (y == ("__classdict__" : Str)) = false := by decide)
    (hm : behindInMarks .NotIn (.Name y p) = false := by rfl) : JT X (.Compare e [.NotIn] [.Name y p] pos) δ δ (!(ds.any fun z => eqF z d)) :=
  PT.imp (pt_cmpR op_notIn_seq ha (pe_var hN hv hd hcd) hm) fun σ H Q ⟨F, B, E, q⟩ => ⟨F, B, E, fun x B1 H1 E1 s1 a1 => by
    obtain ⟨a, vs, e1, e2, _, _, dv, hl⟩ := E1.own h
    refine ⟨.ref a, e1, a, vs, rfl, .inl (SqL.of e2), Dd.flat a1 f, dv.flat fs, _, rfl, ?_⟩
    rw [DdAll.inV a1 f dv fs]
    exact q B1 H1 E1 s1⟩
/-- x.pop(i) -/
theorem je_popO {j : Nat} {np : Pos} (n : Nat) (h0 : δ[n]? = some (some (.mut (mL ds)))) (he : JE X e δ δ1 (aI (j : Int))) (h1 : δ1[n]? = some (some (.mut (mL ds)))) (hj : ds[j]? = some d) (hN : X.N[n]? = some y := by rfl) (hv : Vis X.env.scope y := by first | exact Or.inl rfl | exact Or.inr (Or.inl rfl) | exact Or.inr (Or.inr rfl))
    (hd : (y == ("__debug__" : Str)) = false := by decide) (hcd : (y == ("__classdict__" : Str)) = false := by decide) (hst : starEach [e] X.env = (false, eval e X.env) :: starEach [] X.env := by rfl) (m : A1 X (.Name y np) "pop" apos e cpos := by exact ⟨rfl, rfl, rfl, rfl, rfl⟩) :
    JE X (.Call (.Attribute (.Name y np) "pop" apos) [e] [] cpos) δ (δ1.set n (some (.mut (mL (ds.eraseIdx j))))) (aD d) :=
  PE.imp (pe_bm PySem.F.plainAttrs_list PySem.F.slot_list_pop PySem.F.type_list_pop mt_popAt (pe_var hN hv hd hcd) (pa_cons he pa_nil hst) m.base m.few m.line m.st m.pl) fun σ H Q ⟨F, B, E, q⟩ => by
    obtain ⟨a, vs, e1, e2, ty⟩ := own_tyL (X := X) E h0
    refine ⟨.ref a, e1, ty, F, B, E, fun v B1 H1 E1 s1 a1 => ?_⟩
    obtain ⟨a', ws, f1, f2, f3, f4, f5, f6⟩ := E1.own h1
    rw [e1] at f1
    cases f1
    have hjl := (List.getElem?_eq_some_iff.mp hj).1
    obtain ⟨u, g1, g2⟩ := f5.get hj
    have h63 := line63
    have er : ∀ {vs : List V} {ds : List PyData} (j : Nat), DdAll B1 vs ds → DdAll B1 (vs.eraseIdx j) (ds.eraseIdx j) := fun {vs ds} => by
      intro j h
      induction h using DdAll.rec (motive_1 := fun _ _ _ => True) generalizing j with
      | non => trivial
      | bl => trivial
      | int => trivial
      | str => trivial
      | lst => trivial
      | tup => trivial
      | nil => exact .nil
      | cons r t _ ih =>
        cases j with
        | zero => exact t
        | succ j => exact .cons r (ih j)
    exact ⟨a, ws, (j : Int), j, u, rfl, by rw [Dd.int_eq a1], f2, by omega, by omega, by rw [seqIndex_of (by omega) (by rw [f5.len]; omega)]; rfl, g1, q _ B1 _ (E1.upOwn h1 e1 (er j f5) (Nat.le_trans (List.length_eraseIdx_le _ _) f6)) s1 g2⟩
/-- x[i] = e -/
theorem js_putO {j : Int} {m : Nat} {p0 ps : Pos} (n : Nat) (he : JE X e δ δ1 (aD d)) (h : δ1[n]? = some (some (.mut (mL ds)))) (hi : JE X i δ1 δ1 (aI j)) (hj : ixN ds.length j = some m) (kk : O.nx (δ1.set n (some (.mut (mL (ds.set m d))))))
    (hN : X.N[n]? = some y := by rfl) (hv : Vis X.env.scope y := by first | exact Or.inl rfl | exact Or.inr (Or.inl rfl) | exact Or.inr (Or.inr rfl)) (hd : (y == ("__debug__" : Str)) = false := by decide) (hcd : (y == ("__classdict__" : Str)) = false := by decide)
    (hs : swapsWithSole [.Subscript (.Name y p0) i ps] e pos.line X.env = pure false := by rfl) (hw : swappedStores [.Subscript (.Name y p0) i ps] e X.env = pure none := by rfl) (h1 : (assignEach [.Subscript (.Name y p0) i ps] X.env).map (·.2) = [assign (.Subscript (.Name y p0) i ps) X.env] := by rfl)
    (ha : ∀ v, assign (.Subscript (.Name y p0) i ps) X.env v = (do
      let ov ← holding [v] (eval (.Name y p0) X.env)
      let iv ← holding [v, ov] (eval i X.env)
      standAt ps
      holding [v, ov, iv] (setItem ov iv v)
      release [v, ov, iv] []) := by intro _; rfl) : JS X (.Assign [.Subscript (.Name y p0) i ps] e pos) δ O :=
  PS.imp (ps_asg he (pg_sub (pe_var hN hv hd hcd) hi set_list ha) hs hw h1) fun D σ H ⟨F, B, E, nx, _, _, _⟩ => ⟨F, B, E, fun u B1 H1 E1 s1 a1 => by
    obtain ⟨a, vs, e1, e2, _, _, dv, hl⟩ := E1.own h
    refine ⟨.ref a, e1, F, B1, E1, fun y B2 H2 E2 s2 a2 => ?_⟩
    obtain ⟨a', vs', f1, f2, _, _, dv', hl'⟩ := E2.own h
    rw [e1] at f1
    cases f1
    exact ⟨a, vs', j, m, rfl, Dd.int_eq a2, f2, by rw [dv'.len]; exact hj, nx _ _ B2 _ kk (E2.upOwn h e1 (DdAll.set m dv' (Dd.mono s2 _ _ a1)) (by rw [List.length_set]; exact hl')) (s1.trans s2)⟩⟩
end
end J
/-! parts, is_forest. -/
namespace J
open PySem PySem.Spec L2
/-- what is reached, one behind another -/
def bfsM (nb : Nat → List Nat) : Nat → List Nat → Nat → List Nat
  | 0, row, _ => row
  | f + 1, row, spot => if spot < row.length then bfsM nb f (row ++ (nb (row.getD spot 0)).filter fun x => !row.contains x) (spot + 1) else row
def pieceM (nb : Nat → List Nat) (m : Nat) : Nat → List Nat → List (List Nat) → List (List Nat)
  | 0, _, found => found
  | _ + 1, [], found => found
  | f + 1, x :: xs, found => pieceM nb m f ((x :: xs).filter fun y => !(bfsM nb (m + 1) [x] 0).contains y) (found ++ [setN (bfsM nb (m + 1) [x] 0)])
def Ch.pieces (c : Ch) : List (List Nat) := pieceM (adjM c.ti) c.m c.m (List.range c.m) []
def Ch.forest (c : Ch) : Bool := (c.ti.length : Int) == (c.m : Int) - (c.pieces.length : Int)
theorem adj_mem {ts : List (Nat × Nat)} {j x : Nat} : x ∈ adjM ts j ↔ (j, x) ∈ ts ∨ (x, j) ∈ ts := by
  unfold adjM
  rw [List.mem_flatMap]
  constructor
  · rintro ⟨t, ht, h⟩
    rcases List.mem_append.mp h with h | h
    · split at h
      · rename_i e
        rw [List.mem_singleton.mp h, ← e]
        exact .inl ht
      · cases h
    · split at h
      · rename_i e
        rw [List.mem_singleton.mp h, ← e]
        exact .inr ht
      · cases h
  · rintro (h | h)
    · exact ⟨_, h, by simp⟩
    · exact ⟨_, h, by simp⟩
theorem adj_nodup : ∀ {ts : List (Nat × Nat)} (j : Nat), ts.Nodup → (∀ t ∈ ts, t.1 < t.2) → (adjM ts j).Nodup
  | [], _, _, _ => by simp [adjM]
  | t :: ts, j, nd, lt => by
    have ih := adj_nodup (ts := ts) j (List.nodup_cons.mp nd).2 fun q hq => lt q (List.mem_cons_of_mem _ hq)
    have hn := (List.nodup_cons.mp nd).1
    have h0 := lt t List.mem_cons_self
    have e : adjM (t :: ts) j = ((if t.1 = j then [t.2] else []) ++ (if t.2 = j then [t.1] else [])) ++ adjM ts j := by
      unfold adjM
      rw [List.flatMap_cons]
    rw [e]
    refine List.nodup_append.mpr ⟨?_, ih, fun a ha b hb hab => ?_⟩
    · split
      · rw [if_neg (by omega)]
        simp
      · split <;> simp
    · subst hab
      have hb := adj_mem.mp hb
      rcases List.mem_append.mp ha with ha | ha
      · split at ha
        · rename_i e
          have ea := List.mem_singleton.mp ha
          rcases hb with z | z
          · exact hn (by rw [show t = (j, a) from by rw [← e, ea]]; exact z)
          · have := lt _ (List.mem_cons_of_mem _ z)
            dsimp only at this
            omega
        · cases ha
      · split at ha
        · rename_i e
          have ea := List.mem_singleton.mp ha
          rcases hb with z | z
          · have := lt _ (List.mem_cons_of_mem _ z)
            dsimp only at this
            omega
          · exact hn (by rw [show t = (a, j) from by rw [← e, ea]]; exact z)
        · cases ha
/-- a row on its way -/
structure RowSt (m : Nat) (row : List Nat) (spot : Nat) : Prop where
  nd : row.Nodup
  lt : ∀ x ∈ row, x < m
  sp : spot ≤ row.length
theorem RowSt.len {m : Nat} {row : List Nat} {spot : Nat} (h : RowSt m row spot) : row.length ≤ m := by
  have := List.Nodup.length_le_of_subset (l₂ := List.range m) h.nd fun x hx => List.mem_range.mpr (h.lt x hx)
  rw [List.length_range] at this
  exact this
theorem RowSt.step {c : Ch} (ok : c.Ok) {row : List Nat} {spot : Nat} (h : RowSt c.m row spot) (hs : spot < row.length) : RowSt c.m (row ++ (adjM c.ti (row.getD spot 0)).filter fun x => !row.contains x) (spot + 1) := by
  refine ⟨List.nodup_append.mpr ⟨h.nd, (adj_nodup _ ok.tn fun t ht => (ok.t t ht).1).filter _, fun a ha b hb hab => ?_⟩, fun x hx => ?_, ?_⟩
  · subst hab
    have := (List.mem_filter.mp hb).2
    rw [List.contains_iff_mem.mpr ha] at this
    cases this
  · rcases List.mem_append.mp hx with z | z
    · exact h.lt x z
    · exact adjM_lt ok _ x (List.mem_filter.mp z).1
  · rw [List.length_append]
    omega
section
variable {P : Program} {w : World} {K : PySem.W.Frag} {mg : Str → Option Value} {base : Heap} {nm : Nat → Str} {f : Addr} {fd : FuncData} {k : Nat}
abbrev s_parts : Stmt := topS 13
abbrev N_parts : List Str := ["chart", "found", "left", "near", "name", "one", "other", "row", "spot"]
theorem c_parts : FnScope N_parts ["chart"] (defScope s_parts) := ⟨rfl, rfl, rfl, by decide +kernel, rfl, by decide +kernel, by decide +kernel⟩
def R_parts (nm : Nat → Str) : Rl := fun As Z => ∃ c : Ch, c.Ok ∧ c.ti.length ≤ 20 ∧ As = [aD (dCh nm c)] ∧ Z = aD (eEs nm c.pieces)
theorem bfs_pre (nb : Nat → List Nat) : ∀ (f : Nat) (row : List Nat) (spot x : Nat), x ∈ row → x ∈ bfsM nb f row spot
  | 0, row, _, x, h => h
  | f + 1, row, spot, x, h => by
    rw [bfsM]
    split
    · exact bfs_pre nb f _ _ x (List.mem_append_left _ h)
    · exact h
theorem bfs_end (nb : Nat → List Nat) {row : List Nat} {spot : Nat} (h : ¬ spot < row.length) : ∀ f, bfsM nb f row spot = row
  | 0 => rfl
  | f + 1 => by rw [bfsM, if_neg h]
theorem f_parts (H : NamX nm) (F : Fun K "parts" "parts" s_parts f fd) (C0 : Cal P w K mg base k "tupled" (R_tupled 4)) (C1 : Cal P w K mg base k "names" (R_names nm)) (C2 : Cal P w K mg base k "set_of" R_setof) (m1 : mg "list" = none) (m2 : mg "len" = none) (m3 : mg "tuple" = none) : FnOk P w K mg base CX0 (k + 1) f fd ["chart"] (spJ (R_parts nm)) := by
  refine fn_j F c_parts (fun As Z ⟨i, _, _, e, _⟩ => by rw [e]; rfl) fun cdv A outer s H0 E As Z hr ⟨c, ok, tl, e1, e2⟩ => ?_
  subst e1 e2
  have hu := hr.un
  have m5 := ok.m5
  let nb := adjM c.ti
  refine jb_parX (c1 := .mut (mL [])) (c2 := .val (aD (dNL nm (List.range c.m)))) 1 2 rfl c_parts.nd (jxs_cons (jx_lst (jn_lst (ds := []) ja_nil)) (jxs_cons (jx_of (JN.dat (jn_list (ds := (List.range c.m).map (eN nm)) (.inr rfl) m1 (je_call C1 hr (Nat.le_refl _) (ja_cons (je_v 0) ja_nil) ⟨c, rfl, rfl⟩)))) jxs_nil)) ?_
  let δ1 : Option Cell → DSt := fun c3 => [some (.val (aD (dCh nm c))), some (.mut (mL [])), some (.val (aD (dNL nm (List.range c.m)))), c3, none, none, none, none, none]
  refine jb_dcL (own := [("name", 4)]) (ws := [4]) 3 (List.range c.m) (fun i => aD (eN nm i)) (kN nm) (fun i => (dwipe (δ1 none) [4]).set 4 (some (.val (aD (eN nm i)))))
    (ji_L (xs := List.range c.m) (enc := eN nm) (je_v 2)) (blkOk_by (N := N_parts) (sc := defScope s_parts) (by decide +kernel))
    (fun i hi s0 H1 Cc cl fp => jg_of (gn_mk c_parts.nd rfl (.inl rfl) (.inr rfl) s0 H1 Cc cl fp)) (fun i hi _ _ _ _ _ => je_v 4) (fun i hi _ _ _ _ _ => jn_lst ja_nil) (keys_nd H c.m) (by rw [List.length_range]; exact small (by omega)) rfl c_parts.nd ?_
  let δt : Nat → Option Cell → Option Cell → DSt := fun i c5 c6 => [some (.val (aD (dCh nm c))), some (.mut (mL [])), some (.val (aD (dNL nm (List.range c.m)))), some (.mut (mDL (tabL nm c.m (c.ti.take i)))), none, c5, c6, none, none]
  refine jb_cons (M := fun δ' => ∃ c5 c6 : Option Cell, δ' = δt c.ti.length c5 c6) (js_for (I := fun i δ' => ∃ c5 c6 : Option Cell, δ' = δt i c5 c6)
    (ji_T (xs := c.ti) (enc := dM nm) (je_ixTA (pos := _) (je_call C0 hr (Nat.le_refl _) (ja_cons (je_v 0) ja_nil) (tup_chart nm c)) je_int rfl)) PassesOwn.never rfl ⟨none, none, rfl⟩ (fun i A δ' hA ⟨c4, c5, e⟩ => ?_) (fun δ' ⟨c4, c5, e⟩ => ⟨c4, c5, ?_⟩)) fun δ' ⟨c4, c5, e⟩ => ?_
  · subst e
    rw [List.getElem?_map] at hA
    cases hx : c.ti[i]? with
    | none => rw [hx] at hA; cases hA
    | some t =>
      rw [hx] at hA
      cases hA
      obtain ⟨tt1, tt2⟩ := ok.t t (List.mem_of_getElem? hx)
      have mem : ∀ j, j < c.m → ∀ ts, kN nm j ∈ (tabL nm c.m ts).map (·.1) := fun j hj ts => by
        rw [tabL_keys]
        exact List.mem_map.mpr ⟨j, List.mem_range.mpr hj, rfl⟩
      have nd : ∀ ts, ((tabL nm c.m ts).map (·.1)).Nodup := fun ts => by rw [tabL_keys]; exact keys_nd H c.m
      have ltk : (c.ti.take i).length ≤ 20 := by rw [List.length_take]; omega
      refine ⟨_, _, jg_tup rfl (jgs_cons (jg_name 5 c_parts.nd) (jgs_cons (jg_name 6 c_parts.nd) jgs_nil)), ?_⟩
      refine jb_then (js_expr (je_dlApp (kvs := tabL nm c.m (c.ti.take i)) (k := kN nm t.1) 3 (by show (A.deeper _).units + 1 < cLine; omega) rfl (je_v 5) (je_v 6) (mem _ (by omega) _) (nd _) (fun kv hkv => ?_)) rfl) ?_
      · obtain ⟨j, _, rfl⟩ := List.mem_map.mp hkv
        have := adjM_len (c.ti.take i) j
        exact small (by show ((adjM (c.ti.take i) j).map (eN nm)).length + 1 ≤ 1000; rw [List.length_map]; omega)
      refine jb_cons (M := fun d => ∃ c4 c5 : Option Cell, d = δt (i + 1) c4 c5) (js_expr (je_dlApp (kvs := addTo (tabL nm c.m (c.ti.take i)) (kN nm t.1) (eN nm t.2)) (k := kN nm t.2) 3 (by show (A.deeper _).units + 1 < cLine; omega) rfl (je_v 6) (je_v 5) (by rw [addTo_keys]; exact mem _ (by omega) _) (by rw [addTo_keys]; exact nd _) (fun kv hkv => ?_)) ?_) fun δ' h => jb_nil h
      · obtain ⟨kv', hkv', e⟩ := List.mem_map.mp hkv
        obtain ⟨j, _, rfl⟩ := List.mem_map.mp hkv'
        have := adjM_len (c.ti.take i) j
        have hl : kv.2.length ≤ (adjM (c.ti.take i) j).length + 1 := by
          rw [← e]
          split
          · simp
          · simp
        exact small (by omega)
      · refine ⟨some (.val (aD (eN nm t.1))), some (.val (aD (eN nm t.2))), ?_⟩
        show _ = ([some (.val (aD (dCh nm c))), some (.mut (mL [])), some (.val (aD (dNL nm (List.range c.m)))), some (.mut (mDL (tabL nm c.m (c.ti.take (i + 1))))), none, _, _, none, none] : DSt)
        rw [tab_step H, List.take_add_one, hx]
        rfl
  · rw [e, List.length_map]
  subst e
  have tk : c.ti.take c.ti.length = c.ti := List.take_length
  refine jb_frzDL (kvs := tabL nm c.m (c.ti.take c.ti.length)) 3 rfl (by unfold tabL; rw [List.length_map, List.length_range]; exact small (by omega)) ?_
  rw [tk]
  let δw : List (List Nat) → List Nat → Option Cell → Option Cell → DSt := fun fd lf c7 c8 => [some (.val (aD (dCh nm c))), some (.mut (mL (fd.map (eE nm)))), some (.val (aD (dNL nm lf))), some (.val (aMKF (dlD (tabL nm c.m c.ti)))), none, c4, c5, c7, c8]
  refine jb_cons (M := fun d => ∃ lf c7 c8, d = δw c.pieces lf c7 c8) (js_while (W := fun n d => ∃ fd lf c7 c8, lf.length ≤ n ∧ fd.length + lf.length ≤ c.m ∧ (∀ x ∈ lf, x < c.m) ∧ pieceM nb c.m n lf fd = c.pieces ∧ d = δw fd lf c7 c8) PassesOwn.never (m0 := c.m) ⟨[], List.range c.m, none, none, by rw [List.length_range]; exact Nat.le_refl _, by rw [List.length_range]; simp, fun x hx => List.mem_range.mp hx, rfl, rfl⟩ (fun n δ' ⟨fd, lf, c7, c8, hlf, hsum, hlt, hp, e⟩ => ?_)) fun δ' ⟨lf, c7, c8, e⟩ => ?_
  · subst e
    refine ⟨δw fd lf c7 c8, decide (0 < lf.length), JT.eq (jt_cmp op_gt rop_B0 (je_lenL (ds := lf.map (eN nm)) m2 (je_v 2)) je_int) (by rw [List.length_map]; exact decide_eq_decide.mpr (by omega)), fun h => ?_, fun h => ?_⟩
    · have h0 := of_decide_eq_true h
      obtain ⟨x, xs, rfl⟩ : ∃ x xs, lf = x :: xs := by
        cases lf with
        | nil => simp at h0
        | cons x xs => exact ⟨x, xs, rfl⟩
      obtain ⟨n', rfl⟩ : ∃ n', n = n' + 1 := ⟨n - 1, by rw [List.length_cons] at hlf; omega⟩
      rw [pieceM] at hp
      obtain ⟨R, hR⟩ : ∃ R, R = bfsM nb (c.m + 1) [x] 0 := ⟨_, rfl⟩
      rw [← hR] at hp
      refine jb_tupX (is := [7, 8]) (cs := [.mut (mL ([x].map (eN nm))), .val (aI ((0 : Nat) : Int))]) rfl (jxs_cons (jx_lst (jn_lst (ds := [eN nm x]) (ja_cons (je_ixL (ds := (x :: xs).map (eN nm)) (d := eN nm x) (je_v 2) je_int (atI_nat (j := 0) rfl)) ja_nil))) (jxs_cons (jx_of je_int) jxs_nil)) (gns_cons 7 c_parts.nd (gns_cons 8 c_parts.nd gns_nil)) (by decide) rfl (show 2 ≤ 64 by decide) ?_
      let δr : List Nat → Nat → DSt := fun row spot => δw fd (x :: xs) (some (.mut (mL (row.map (eN nm))))) (some (.val (aI (spot : Int))))
      show JB _ _ (δr [x] 0) _
      refine jb_cons (M := fun d => ∃ spot, d = δr R spot) (js_while (W := fun g d => ∃ row spot, RowSt c.m row spot ∧ c.m + 1 ≤ g + spot ∧ bfsM nb g row spot = R ∧ d = δr row spot) PassesOwn.never (m0 := c.m + 1) ⟨[x], 0, ⟨by simp, fun y hy => by rw [List.mem_singleton.mp hy]; exact hlt x List.mem_cons_self, Nat.zero_le _⟩, Nat.le_refl _, hR.symm, rfl⟩ (fun g δ' ⟨row, spot, rs, hg, hb, e⟩ => ?_)) fun δ' ⟨spot, e⟩ => ?_
      · subst e
        have hrl := rs.len
        refine ⟨δr row spot, decide (spot < row.length), JT.eq (jt_cmp op_lt rop_B0 (je_v 8) (je_lenO (ds := row.map (eN nm)) 7 rfl m2)) (by rw [List.length_map]; exact decide_eq_decide.mpr (by omega)), fun h => ?_, fun h => ?_⟩
        · have hs := of_decide_eq_true h
          obtain ⟨g', rfl⟩ : ∃ g', g = g' + 1 := ⟨g - 1, by omega⟩
          rw [bfsM, if_pos hs] at hb
          have st := rs.step ok hs
          have hgt : row.getD spot 0 < c.m := by
            rw [List.getD_eq_getElem?_getD, List.getElem?_eq_getElem hs]
            exact rs.lt _ (List.getElem_mem hs)
          obtain ⟨j, hj⟩ : ∃ j, j = row.getD spot 0 := ⟨_, rfl⟩
          have hat : (row.map (eN nm))[spot]? = some (eN nm j) := by
            rw [List.getElem?_map, hj, List.getD_eq_getElem?_getD, List.getElem?_eq_getElem hs]
            rfl
          obtain ⟨ex, hex⟩ : ∃ ex, ex = (nb j).filter fun y => !row.contains y := ⟨_, rfl⟩
          rw [← hj, show (adjM c.ti j).filter (fun y => !row.contains y) = ex from hex.symm] at st
          have hb' : bfsM nb g' (row ++ ex) (spot + 1) = R := by
            rw [hex, hj]
            exact hb
          have stl := st.len
          rw [List.length_append] at stl
          refine jb_cons (M := fun d => d = δr (row ++ ex) spot) (js_expr (je_extend (δ1 := δr row spot) (ds := row.map (eN nm)) (es := ex.map (eN nm)) 7 rfl (JE.eq (JN.dat (jn_f (δ1 := δr row spot) 4 (nb j) (eN nm) (fun y => !row.contains y) (eN nm) (ji_L (je_dgetF (kvs := dlD (tabL nm c.m c.ti)) (k := kN nm j) (by show (A.deeper _).units + 1 < cLine; omega) (je_v 3) (je_ixO (ds := row.map (eN nm)) 7 rfl (je_v 8) (atI_nat (j := spot) hat)) ?_)) (blkOk_by (N := N_parts) (sc := defScope s_parts) (by decide +kernel)) (fun y hy _ _ _ _ _ => JT.eq (jt_notinO (d := eN nm y) (ds := row.map (eN nm)) 7 rfl (je_v 4) rfl (flat_N row)) (by rw [any_N H.toNam])) (fun y hy _ _ _ _ _ _ => je_v 4) rfl c_parts.nd)) (by rw [hex])) rfl (by rw [List.length_map, List.length_map]; exact small (by omega))) ?_) fun δ' e => ?_
          · have hjm : j < c.m := by rw [hj]; exact hgt
            unfold dlD tabL
            rw [List.map_map]
            exact lk_range H hjm fun j => PyData.list ((adjM c.ti j).map (eN nm))
          · show List.set _ _ _ = δr (row ++ ex) spot
            rw [← List.map_append]
            rfl
          · subst e
            refine jb_augI (g := fun a b => a + b) (m := (spot : Int)) (n := 1) 8 c_parts.nd ip_add rfl je_int (jb_nil ⟨g', by omega, row ++ ex, spot + 1, st, by omega, hb', ?_⟩)
            rfl
        · have hs : ¬ spot < row.length := of_decide_eq_false h
          refine ⟨spot, ?_⟩
          rw [← hb, bfs_end nb hs]
      · subst e
        refine jb_frz (ds := R.map (eN nm)) 7 rfl ?_
        have hxR : x ∈ R := by rw [hR]; exact bfs_pre nb _ _ _ x (by simp)
        have hf1 : ((x :: xs).filter fun y => !R.contains y).length ≤ xs.length := by
          have e9 : (x :: xs).filter (fun y => !R.contains y) = xs.filter (fun y => !R.contains y) := List.filter_cons_of_neg (by
            show ¬ (!R.contains x) = true
            rw [List.contains_iff_mem.mpr hxR]
            exact Bool.false_ne_true)
          rw [e9]
          exact List.length_filter_le _ _
        rw [List.length_cons] at hlf hsum
        have hRl : R.length < 4000 := by
          have : ∀ g row spot, RowSt c.m row spot → (bfsM nb g row spot).length ≤ c.m := fun g => by
            induction g with
            | zero => exact fun row spot rs => rs.len
            | succ g ih =>
              intro row spot rs
              rw [bfsM]
              split
              · rename_i hs
                exact ih _ _ (rs.step ok hs)
              · exact rs.len
          have := this (c.m + 1) [x] 0 ⟨by simp, fun y hy => by rw [List.mem_singleton.mp hy]; exact hlt x List.mem_cons_self, Nat.zero_le _⟩
          rw [hR]
          omega
        let δs : List (List Nat) → Option Cell → DSt := fun fd c8 => δw fd (x :: xs) (some (.val (aD (dNL nm R)))) c8
        refine jb_cons (M := fun d => ∃ c8, d = δs (fd ++ [setN R]) c8) (js_expr (je_append (ds := fd.map (eE nm)) (d := eE nm (setN R)) 1 rfl (je_call C2 hr (Nat.le_refl _) (ja_cons (je_v 7) ja_nil) (setof_N H R hRl)) rfl (by rw [List.length_map]; exact small (by omega))) ⟨some (.val (aI (spot : Int))), ?_⟩) fun δ' ⟨c8, e⟩ => ?_
        · have ea : (fd ++ [setN R]).map (eE nm) = fd.map (eE nm) ++ [eE nm (setN R)] := by rw [List.map_append]; rfl
          show _ = ([some (.val (aD (dCh nm c))), some (.mut (mL ((fd ++ [setN R]).map (eE nm)))), _, _, _, _, _, _, _] : DSt)
          rw [ea]
          rfl
        · subst e
          refine jb_lc (own := [("name", 4)]) (ws := [4]) 2 (x :: xs) (eN nm) (fun y => (dwipe (δs (fd ++ [setN R]) c8) [4]).set 4 (some (.val (aD (eN nm y))))) (fun y => !R.contains y) (eN nm) (ji_L (je_v 2)) (blkOk_by (N := N_parts) (sc := defScope s_parts) (by decide +kernel)) (fun y hy s0 H1 Cc cl fp => jg_of (gn_mk c_parts.nd rfl (.inl rfl) (.inr rfl) s0 H1 Cc cl fp)) (fun y hy _ _ _ _ _ => jts_one (JT.eq (jt_notin (ds := R.map (eN nm)) (.inl rfl) (je_v 4) (je_v 7) rfl (flat_N R)) (by rw [any_N H.toNam]))) (fun y hy _ _ _ _ _ _ => je_v 4) (show 2 < 9 by decide) ?_ rfl c_parts.nd
          exact jb_nil ⟨n', by omega, fd ++ [setN R], (x :: xs).filter fun y => !R.contains y, _, _, by omega, by rw [List.length_append]; show fd.length + 1 + _ ≤ _; omega, fun y hy => hlt y (List.mem_filter.mp hy).1, hp, rfl⟩
    · have h0 := of_decide_eq_false h
      have : lf = [] := List.eq_nil_of_length_eq_zero (by omega)
      subst this
      refine ⟨[], c7, c8, ?_⟩
      rw [← hp]
      cases n <;> rfl
  · subst e
    exact jb_frz (ds := c.pieces.map (eE nm)) 1 rfl (jb_ret (je_tupleL m3 (je_v 1)) Ret.same)
/-! ### is_forest -/
abbrev s_forest : Stmt := topS 14
theorem c_forest : FnScope ["chart"] ["chart"] (defScope s_forest) := ⟨rfl, rfl, rfl, by decide +kernel, rfl, by decide +kernel, by decide +kernel⟩
def R_forest (nm : Nat → Str) : Rl := fun As Z => ∃ c : Ch, c.Ok ∧ c.ti.length ≤ 20 ∧ As = [aD (dCh nm c)] ∧ Z = aB c.forest
theorem f_forest (F : Fun K "is_forest" "is_forest" s_forest f fd) (C0 : Cal P w K mg base k "tupled" (R_tupled 4)) (C1 : Cal P w K mg base k "names" (R_names nm)) (C2 : Cal P w K mg base k "parts" (R_parts nm)) (m1 : mg "len" = none) : FnOk P w K mg base CX0 (k + 1) f fd ["chart"] (spJ (R_forest nm)) := by
  refine fn_j F c_forest (fun As Z ⟨i, _, _, e, _⟩ => by rw [e]; rfl) fun cdv A outer s H0 E As Z hr ⟨c, ok, tl, e1, e2⟩ => ?_
  subst e1 e2
  refine jb_ret (JE.eq (je_eqI (je_lenT (ds := c.ti.map (dM nm)) m1 (je_ixTA (je_call C0 hr (Nat.le_refl _) (ja_cons (je_v 0) ja_nil) (tup_chart nm c)) je_int rfl)) (je_sub (je_lenT (ds := (List.range c.m).map (eN nm)) m1 (je_call C1 hr (Nat.le_refl _) (ja_cons (je_v 0) ja_nil) ⟨c, rfl, rfl⟩)) (je_lenT (ds := c.pieces.map (eE nm)) m1 (je_call C2 hr (Nat.le_refl _) (ja_cons (je_v 0) ja_nil) ⟨c, ok, tl, rfl, rfl⟩)))) ?_) Ret.same
  rw [List.length_map, List.length_map, List.length_map, List.length_range]
  rfl
end
end J
/-! _law_read, _law_told. -/
namespace J
open PySem PySem.Spec L2
section
variable {P : Program} {w : World} {K : PySem.W.Frag} {mg : Str → Option Value} {base : Heap} {nm : Nat → Str} {f : Addr} {fd : FuncData} {k : Nat}
abbrev s_told : Stmt := topS 62
abbrev N_told : List Str := ["_law_web_here", "_law_far", "_law_caught", "_law_told_here", "error"]
theorem c_told : FnScope N_told ["_law_web_here", "_law_far"] (defScope s_told) := ⟨rfl, rfl, rfl, by decide +kernel, rfl, by decide +kernel, by decide +kernel⟩
def R_told (nm : Nat → Str) (P0 : Addr) : RlM := fun M M' As Z => ∃ (v0 : V) (T : List Addr) (c : Ch) (k : Nat), P0 ∈ T ∧ c.Ok ∧ c.ti.length ≤ 20 ∧ k ≤ 2 ∧ M = mTb v0 T (aD (dCh nm c)) ∧ M' = M ∧ As = [aI (k : Int)] ∧ Z = some (aD (optC nm (c.some nm k)))
theorem f_told {C : Value} {P0 CA : Addr} (F : Fun K "_law_told" "_law_told" s_told f fd) (X : ExcF K mg CA) (C1 : CalM (L2.CX P w) P w K mg base k "some_cuts" (.ref CA) (R_some nm P0)) : FnOk P w K mg base CX0 (k + 1) f fd ["_law_web_here", "_law_far"] (spM C (R_told nm P0)) := by
  refine fn_jM F c_told (fun M M' As Z ⟨v0, T, c, k, _, _, _, _, e1, e2, e3, e4⟩ => ⟨by rw [e3]; rfl, by rw [e4]; exact (fun z => nomatch z), by rw [e2, e1]; exact mTb_prec⟩) fun cdv A outer s H0 E M M' As Z hr ⟨v0, T, c, n, hP, ok, tl, hn, e1, e2, e3, e4⟩ => ?_
  subst e2 e1 e3
  cases e4
  let M0 : MV := mTb v0 T (aD (dCh nm c))
  refine jb_tupX (is := [2, 3]) (cs := [.val aN, .val aN]) rfl (jxs_cons (jx_of je_non) (jxs_cons (jx_of je_non) jxs_nil)) (gns_cons 2 c_told.nd (gns_cons 3 c_told.nd gns_nil)) (by decide) rfl (show 2 ≤ 64 by decide) ?_
  let δ0 : Cell → Cell → DSt := fun c2 c3 => [some (.mut M0), some (.val (aI (n : Int))), some c2, some c3, none]
  refine jb_cons (M := fun d => (∀ l, c.some nm n = Option.some l → d = δ0 (.val aN) (.val (aD (eEs nm l)))) ∧ (c.some nm n = none → d = δ0 (.val aNN) (.val aN))) (js_tryT (δ1 := δ0 (.val aN) (.val aN)) (A := aD (dCh nm c)) (As := [aI (n : Int)]) (T := T) (M := M0) (R := R_some nm P0) (Z := (c.some nm n).map fun l => aD (eEs nm l)) 0 3 2 4 C1 hr (Nat.le_refl _) (fun pn xe => ja_cons (je_vT 0) (ja_cons (je_v 1) ja_nil)) rfl lnd_Tb (fun v1 => ⟨v1, T, c, n, hP, ok, tl, hn, rfl, rfl, rfl, rfl⟩) X.m X.gC (fun Z' hZ => ?_) (fun hZ => ?_) c_told.nd (show 4 < 5 by decide) rfl rfl (by decide) rfl rfl rfl rfl rfl rfl rfl (by decide) (by decide) (by decide) (.inl rfl) rfl rfl rfl) fun δ' ⟨h1, h2⟩ => ?_
  · obtain ⟨l, hl, e⟩ := Option.map_eq_some_iff.mp hZ
    subst e
    refine ⟨fun l' hl' => ?_, fun z => by rw [z] at hl; cases hl⟩
    rw [hl] at hl'
    cases hl'
    rfl
  · have hz : c.some nm n = none := Option.map_eq_none_iff.mp hZ
    exact ⟨(fun l hl => by rw [hz] at hl; cases hl), fun _ => rfl⟩
  · cases hs : c.some nm n with
    | none =>
      rw [h2 hs]
      exact jb_ret (je_if (p := false) (jt_cmp (C := aN) op_isN (fun B H x y Q _ h1 h2 q => ⟨Dd.non_eq h2, by rw [show decide (x = V.non) = false from decide_eq_false h1]; exact q _ B H (.refl B H) (.bl _)⟩) (je_v (A := aNN) 2) je_non) (fun z => by cases z) fun _ => je_non) (fun _ _ h => h) rfl
    | some l =>
      rw [h1 l hs]
      exact jb_ret (je_if (p := true) (JT.eq (jt_is (je_v 2)) rfl) (fun _ => je_v 3) fun z => by cases z) (fun _ _ h => h) rfl
/-! ### _law_read -/
abbrev s_read : Stmt := topS 61
theorem c_read : FnScope N_told ["_law_web_here", "_law_far"] (defScope s_read) := ⟨rfl, rfl, rfl, by decide +kernel, rfl, by decide +kernel, by decide +kernel⟩
def optB : Option Bool → PyData
  | Option.some b => .bool b
  | none => .none
def R_read (nm : Nat → Str) : RlM := fun M M' As Z => ∃ (v0 : V) (c : Ch) (k : Nat), c.Ok ∧ c.ti.length ≤ 20 ∧ k ≤ 2 ∧ c.Bit ∧ 1 ≤ c.sz.length ∧ (∀ r, c.reader k = Option.some r → RdOk c k r) ∧ M = mTb v0 [] (aD (dCh nm c)) ∧ M' = M ∧ As = [aI (k : Int)] ∧ Z = some (aD (optB ((c.reader k).map fun _ => true)))
theorem f_read {C : Value} {CA : Addr} (F : Fun K "_law_read" "_law_read" s_read f fd) (X : ExcF K mg CA) (C1 : CalM (L2.CX P w) P w K mg base k "a_reader" (.ref CA) (R_aread nm)) (C2 : Cal P w K mg base k "is_reader" (R_isread nm)) : FnOk P w K mg base CX0 (k + 1) f fd ["_law_web_here", "_law_far"] (spM C (R_read nm)) := by
  refine fn_jM F c_read (fun M M' As Z ⟨v0, c, k, _, _, _, _, _, _, e1, e2, e3, e4⟩ => ⟨by rw [e3]; rfl, by rw [e4]; exact (fun z => nomatch z), by rw [e2, e1]; exact mTb_prec⟩) fun cdv A outer s H0 E M M' As Z hr ⟨v0, c, n, ok, tl, hn, bt, sz1, rok, e1, e2, e3, e4⟩ => ?_
  subst e2 e1 e3
  cases e4
  let M0 : MV := mTb v0 [] (aD (dCh nm c))
  refine jb_tupX (is := [2, 3]) (cs := [.val aN, .val aN]) rfl (jxs_cons (jx_of je_non) (jxs_cons (jx_of je_non) jxs_nil)) (gns_cons 2 c_read.nd (gns_cons 3 c_read.nd gns_nil)) (by decide) rfl (show 2 ≤ 64 by decide) ?_
  let δ0 : Cell → Cell → DSt := fun c2 c3 => [some (.mut M0), some (.val (aI (n : Int))), some c2, some c3, none]
  refine jb_cons (M := fun d => (∀ l, c.reader n = Option.some l → d = δ0 (.val aN) (.val (aD (dRd nm l)))) ∧ (c.reader n = none → d = δ0 (.val aNN) (.val aN))) (js_tryT (δ1 := δ0 (.val aN) (.val aN)) (A := aD (dCh nm c)) (As := [aI (n : Int)]) (T := []) (M := M0) (R := R_aread nm) (Z := (c.reader n).map fun l => aD (dRd nm l)) 0 3 2 4 C1 hr (Nat.le_refl _) (fun pn xe => ja_cons (je_vT 0) (ja_cons (je_v 1) ja_nil)) rfl lnd_Tb (fun v1 => ⟨v1, c, n, ok, tl, hn, bt, sz1, rfl, rfl, rfl, rfl⟩) X.m X.gC (fun Z' hZ => ?_) (fun hZ => ?_) c_read.nd (show 4 < 5 by decide) rfl rfl (by decide) rfl rfl rfl rfl rfl rfl rfl (by decide) (by decide) (by decide) (.inl rfl) rfl rfl rfl) fun δ' ⟨h1, h2⟩ => ?_
  · obtain ⟨l, hl, e⟩ := Option.map_eq_some_iff.mp hZ
    subst e
    refine ⟨fun l' hl' => ?_, fun z => by rw [z] at hl; cases hl⟩
    rw [hl] at hl'
    cases hl'
    rfl
  · have hz : c.reader n = none := Option.map_eq_none_iff.mp hZ
    exact ⟨(fun l hl => by rw [hz] at hl; cases hl), fun _ => rfl⟩
  · cases hs : c.reader n with
    | none =>
      rw [h2 hs]
      exact jb_ret (je_if (p := true) (jt_cmp (C := aN) op_notN (fun B H x y Q _ h1 h2 q => ⟨Dd.non_eq h2, by rw [show decide (x = V.non) = false from decide_eq_false h1]; exact q _ B H (.refl B H) (.bl _)⟩) (je_v (A := aNN) 2) je_non) (fun _ => je_non) fun z => by cases z) (fun _ _ h => h) rfl
    | some l =>
      rw [h1 l hs]
      exact jb_ret (je_if (p := false) (JT.eq (jt_isnot (je_v 2)) rfl) (fun z => by cases z) fun _ => je_call C2 hr (Nat.le_refl _) (ja_cons (je_vT 0) (ja_cons (je_v 1) (ja_cons (je_v 3) ja_nil))) ⟨c, n, l, ok, tl, hn, bt, rok l hs, rfl, rfl⟩) (fun _ _ h => h) rfl
end
end J
/-! _law_pick. -/
namespace J
open PySem PySem.Spec L2
theorem take_rng (t : Tin) {n : Int} (h : 0 < n) : 0 ≤ (takeM t n).1 ∧ (takeM t n).1 < n := by
  unfold takeM
  split
  · exact ⟨Int.emod_nonneg _ (by omega), Int.emod_lt_of_pos _ h⟩
  · unfold mixM
    exact ⟨Int.emod_nonneg _ (by omega), Int.emod_lt_of_pos _ h⟩
theorem take_ok {t : Tin} {n m : Int} (h : t.Ok (m + 1)) (hm : 0 ≤ m) : (takeM t n).2.Ok m := by
  unfold takeM
  split
  · exact ⟨h.k0, h.k1, h.c0, by have := h.c1; show t.c + m ≤ _; omega⟩
  · exact ⟨h.k0, h.k1, by have := h.c0; show 0 ≤ t.c + 1; omega, by have := h.c1; show t.c + 1 + m ≤ _; omega⟩
theorem Tin.Ok.mono {t : Tin} {n m : Int} (h : t.Ok n) (hm : m ≤ n) : t.Ok m := ⟨h.k0, h.k1, h.c0, by have := h.c1; omega⟩
/-- some of these, drawn -/
def pickM {α : Type} : Nat → Tin → List α → List α → List α × Tin
  | 0, t, _, acc => (acc, t)
  | k + 1, t, rest, acc => match rest[(takeM t rest.length).1.toNat]? with
    | Option.some x => pickM k (takeM t rest.length).2 (rest.eraseIdx (takeM t rest.length).1.toNat) (acc ++ [x])
    | none => (acc, t)
theorem pick_ok {α : Type} : ∀ (k : Nat) (t : Tin) (rest acc : List α) (m : Int), t.Ok (m + k) → 0 ≤ m → (pickM k t rest acc).2.Ok m
  | 0, t, _, _, m, h, _ => by
    rw [pickM]
    exact h.mono (by omega)
  | k + 1, t, rest, acc, m, h, hm => by
    rw [pickM]
    split
    · exact pick_ok k _ _ _ m (take_ok (h.mono (by omega)) (by omega)) hm
    · exact h.mono (by omega)
theorem erase_perm {α : Type} : ∀ {l : List α} {i : Nat} {x : α}, l[i]? = Option.some x → (x :: l.eraseIdx i).Perm l
  | a :: l, 0, x, h => by
    have e : a = x := by simpa using h
    rw [e]
    exact List.Perm.refl _
  | a :: l, i + 1, x, h => by
    rw [List.eraseIdx_cons_succ]
    exact (List.Perm.swap a x _).trans ((erase_perm (by simpa using h)).cons a)
theorem erase_map {α β : Type} (g : α → β) : ∀ (l : List α) (i : Nat), (l.eraseIdx i).map g = (l.map g).eraseIdx i
  | [], _ => rfl
  | a :: l, 0 => rfl
  | a :: l, i + 1 => by
    rw [List.eraseIdx_cons_succ, List.map_cons, List.map_cons, List.eraseIdx_cons_succ, erase_map g l i]
theorem mem_erase {α : Type} {l : List α} {i : Nat} {x : α} (h : x ∈ l.eraseIdx i) : x ∈ l := List.mem_of_mem_eraseIdx h
theorem pick_mem {α : Type} : ∀ (k : Nat) (t : Tin) (rest acc : List α), (∀ x ∈ (pickM k t rest acc).1, x ∈ acc ∨ x ∈ rest) ∧ ((acc ++ rest).Nodup → (pickM k t rest acc).1.Nodup)
  | 0, t, rest, acc => ⟨fun x hx => .inl hx, fun h => (List.nodup_append.mp h).1⟩
  | k + 1, t, rest, acc => by
    rw [pickM]
    split
    · rename_i x hx
      obtain ⟨h1, h2⟩ := pick_mem k (takeM t rest.length).2 (rest.eraseIdx (takeM t rest.length).1.toNat) (acc ++ [x])
      refine ⟨fun y hy => ?_, fun nd => h2 ?_⟩
      · rcases h1 y hy with z | z
        · rcases List.mem_append.mp z with z | z
          · exact .inl z
          · rw [List.mem_singleton.mp z]
            exact .inr (List.mem_of_getElem? hx)
        · exact .inr (mem_erase z)
      · have p : (acc ++ [x] ++ rest.eraseIdx (takeM t rest.length).1.toNat).Perm (acc ++ rest) := by
          rw [List.append_assoc]
          refine List.Perm.append_left acc ?_
          exact erase_perm hx
        exact p.nodup_iff.mpr nd
    · exact ⟨fun y hy => .inl hy, fun nd => (List.nodup_append.mp nd).1⟩
theorem pick_len {α : Type} : ∀ (k : Nat) (t : Tin) (rest acc : List α), (pickM k t rest acc).1.length ≤ acc.length + k
  | 0, t, _, _ => by simp [pickM]
  | k + 1, t, rest, acc => by
    rw [pickM]
    split
    · rename_i x _
      have := pick_len k (takeM t rest.length).2 (rest.eraseIdx (takeM t rest.length).1.toNat) (acc ++ [x])
      rw [List.length_append, List.length_singleton] at this
      omega
    · show acc.length ≤ _
      omega
section
variable {P : Program} {w : World} {K : PySem.W.Frag} {mg : Str → Option Value} {base : Heap} {nm : Nat → Str} {f : Addr} {fd : FuncData} {k : Nat}
abbrev s_pick : Stmt := topS 58
abbrev N_pick : List Str := ["_law_tin", "_law_pool", "_law_size_so", "_law_rest", "_law_some", "_law_turn"]
theorem c_pick : FnScope N_pick ["_law_tin", "_law_pool", "_law_size_so"] (defScope s_pick) := ⟨rfl, rfl, rfl, by decide +kernel, rfl, by decide +kernel, by decide +kernel⟩
def R_pick (nm : Nat → Str) : RlM := fun M M' As Z => ∃ (a : Addr) (T : List Addr) (t : Tin) (ps : List (Nat × Nat)) (s : Nat), ps.length ≤ 100 ∧ s ≤ ps.length ∧ t.Ok s ∧ M = mTin a T t ∧ M' = mTin a T (pickM s t ps []).2 ∧ As = [aD (.list (ps.map (dM nm))), aI (s : Int)] ∧ Z = some (aD (.list ((pickM s t ps []).1.map (dM nm))))
theorem f_pick {C : Value} (F : Fun K "_law_pick" "_law_pick" s_pick f fd) (C1 : CalM CX0 P w K mg base k "_law_take" C R_take) (m1 : mg "list" = none) (m2 : mg "len" = none) (m3 : mg "min" = none) (m4 : mg "range" = none) : FnOk P w K mg base CX0 (k + 1) f fd ["_law_tin", "_law_pool", "_law_size_so"] (spM C (R_pick nm)) := by
  refine fn_jM F c_pick (fun M M' As Z ⟨a, T, t, ps, s, _, _, _, e1, e2, e3, e4⟩ => ⟨by rw [e3]; rfl, by rw [e4]; exact (fun z => nomatch z), by rw [e2, e1]; exact mTin_prec⟩) fun cdv A outer s0 H0 E M M' As Z hr ⟨a, T, t, ps, s, pl, sl, tok, e1, e2, e3, e4⟩ => ?_
  subst e2 e1 e3
  cases e4
  refine jb_parX (c1 := .mut (mL (ps.map (dM nm)))) (c2 := .mut (mL [])) 3 4 rfl c_pick.nd (jxs_cons (jx_lst (jn_list (ds := ps.map (dM nm)) (.inl rfl) m1 (je_v 1))) (jxs_cons (jx_lst (jn_lst (ds := []) ja_nil)) jxs_nil)) ?_
  obtain ⟨R, hR⟩ : ∃ R, R = pickM s t ps [] := ⟨_, rfl⟩
  rw [← hR]
  let δi : Tin → List (Nat × Nat) → List (Nat × Nat) → Option Cell → DSt := fun t rest acc c5 => [some (.mut (mTin a T t)), some (.val (aD (.list (ps.map (dM nm))))), some (.val (aI (s : Int))), some (.mut (mL (rest.map (dM nm)))), some (.mut (mL (acc.map (dM nm)))), c5]
  refine jb_cons (M := fun d => ∃ rest c5, d = δi R.2 rest R.1 c5) (js_for (I := fun i d => ∃ t' rest acc c5, i ≤ s ∧ pickM (s - i) t' rest acc = R ∧ rest.length + i = ps.length ∧ acc.length = i ∧ t'.Ok ((s - i : Nat) : Int) ∧ d = δi t' rest acc c5) (ji_range (n := (s : Int)) m4 (JE.eq (je_min2 m3 rfl (je_v 2) (je_lenO (ds := ps.map (dM nm)) 3 rfl m2)) (by
      rw [List.length_map]
      have : ¬ (ps.length : Int) < (s : Int) := by omega
      rw [if_neg this])) ⟨by omega, by omega⟩) PassesOwn.never rfl ⟨t, ps, [], none, Nat.zero_le _, hR.symm, by omega, rfl, tok, rfl⟩ (fun i A' δ' hA ⟨t', rest, acc, c5, hi, hp, hl, ha, ht, e⟩ => ?_) (fun δ' ⟨t', rest, acc, c5, hi, hp, hl, ha, ht, e⟩ => ⟨rest, c5, ?_⟩)) fun δ' ⟨rest, c5, e⟩ => ?_
  · subst e
    have hi2 : i < s := by
      have := (List.getElem?_eq_some_iff.mp hA).1
      rw [List.length_map, List.length_range] at this
      omega
    refine ⟨_, _, jg_name 5 c_pick.nd, ?_⟩
    have es : s - i = (s - (i + 1)) + 1 := by omega
    rw [es, pickM] at hp
    have hrl : 0 < rest.length := by omega
    obtain ⟨q1, q2⟩ := take_rng t' (n := (rest.length : Int)) (by omega)
    obtain ⟨r, hr'⟩ : ∃ r, r = takeM t' (rest.length : Int) := ⟨_, rfl⟩
    rw [← hr'] at hp q1 q2
    obtain ⟨j, hj⟩ : ∃ j : Nat, r.1 = (j : Int) := ⟨r.1.toNat, by omega⟩
    have hj2 : j < rest.length := by omega
    have ej : r.1.toNat = j := by omega
    rw [ej, List.getElem?_eq_getElem hj2] at hp
    have tok1 : t'.Ok 1 := ht.mono (by omega)
    have hr2 : (takeM t' (rest.length : Int)) = r := hr'.symm
    let δw : Tin → DSt := fun t => δi t rest acc (some (.val A'))
    refine jb_cons (M := fun d => ∃ t' rest acc c5, i + 1 ≤ s ∧ pickM (s - (i + 1)) t' rest acc = R ∧ rest.length + (i + 1) = ps.length ∧ acc.length = i + 1 ∧ t'.Ok ((s - (i + 1) : Nat) : Int) ∧ d = δi t' rest acc c5) (js_expr (je_append (ds := acc.map (dM nm)) (d := dM nm rest[j]) 4 rfl (je_popO (ds := rest.map (dM nm)) (j := j) (δ1 := δw r.2) 3 rfl (JE.eq (je_callM (As := [aI (rest.length : Int)]) (M := mTin a T t') (M' := mTin a T r.2) (Z := aI r.1) 0 C1 hr (Nat.le_refl _) (ja_cons (JE.eq (je_lenO (ds := rest.map (dM nm)) 3 rfl m2) (by rw [List.length_map])) ja_nil) rfl rfl ⟨a, T, t', (rest.length : Int), rfl, by rw [hr2], rfl, by rw [hr2], tok1, by omega, by omega⟩) (congrArg PyData.int hj)) rfl (by rw [List.getElem?_map, List.getElem?_eq_getElem hj2]; rfl)) rfl (by rw [List.length_map]; exact small (by omega))) ⟨r.2, rest.eraseIdx j, acc ++ [rest[j]], some (.val A'), hi2, hp, ?_, ?_, ?_, ?_⟩) fun δ' h => jb_nil h
    · rw [List.length_eraseIdx_of_lt hj2]
      omega
    · rw [List.length_append, ha]
      rfl
    · rw [hr']
      refine take_ok (ht.mono ?_) (by omega)
      omega
    · have e1 : (acc ++ [rest[j]]).map (dM nm) = acc.map (dM nm) ++ [dM nm rest[j]] := by rw [List.map_append]; rfl
      have e2 : (rest.eraseIdx j).map (dM nm) = (rest.map (dM nm)).eraseIdx j := erase_map _ _ _
      show _ = ([some (.mut (mTin a T r.2)), _, _, some (.mut (mL ((rest.eraseIdx j).map (dM nm)))), some (.mut (mL ((acc ++ [rest[j]]).map (dM nm)))), _] : DSt)
      rw [e1, e2]
      rfl
  · rw [e]
    have hl2 : ((List.range (s : Int).toNat).map fun (i : Nat) => aI (i : Int)).length = s := by simp
    rw [hl2] at hp
    rw [Nat.sub_self, pickM] at hp
    rw [← hp]
  · subst e
    exact jb_frz (ds := R.1.map (dM nm)) 4 rfl (jb_ret (je_v 4) (fun _ _ h => h) rfl)
end
end J
/-! Names told by a list. -/
namespace J
open PySem PySem.Spec L2
def nmOf (b : Nat → List Nat) (z : List Nat) (i : Nat) : Str := ⟨(if i < 20 then b i else z ++ List.replicate (i - 20) 97).toArray⟩
structure BaseOk (b : Nat → List Nat) (z : List Nat) : Prop where
  lt : ∀ i, i < 20 → ∀ j, j < 20 → decide (b i < b j) = decide (i < j)
  top : ∀ i, i < 20 → b i < z
  name : ∀ i, i < 20 → 1 ≤ (b i).length ∧ (b i).length ≤ 8 ∧ ∀ c ∈ b i, c ∈ lettersS.cps.toList
  zo : ∀ c ∈ z, c < 0x110000
theorem lt_app : ∀ {a z : List Nat} (l : List Nat), a < z → a < z ++ l
  | [], [], _, h => absurd h (by simp)
  | [], _ :: _, _, _ => by simp
  | _ :: _, [], _, h => absurd h (by simp)
  | x :: a, y :: z, l, h => by
    rw [List.cons_append]
    rcases List.cons_lt_cons_iff.mp h with h | ⟨h1, h2⟩
    · exact List.cons_lt_cons_iff.mpr (.inl h)
    · exact List.cons_lt_cons_iff.mpr (.inr ⟨h1, lt_app l h2⟩)
theorem app_lt : ∀ (z a b : List Nat), (z ++ a < z ++ b) ↔ a < b
  | [], a, b => Iff.rfl
  | x :: z, a, b => by
    rw [List.cons_append, List.cons_append, List.cons_lt_cons_iff, app_lt z a b]
    simp
theorem rep_lt : ∀ n m : Nat, (List.replicate n 97 < List.replicate m 97) ↔ n < m
  | 0, 0 => by simp
  | 0, m + 1 => by simp [List.replicate_succ]
  | n + 1, 0 => by simp [List.replicate_succ]
  | n + 1, m + 1 => by
    rw [List.replicate_succ, List.replicate_succ, List.cons_lt_cons_iff, rep_lt n m]
    simp
theorem namX_of {b : Nat → List Nat} {z : List Nat} (ok : BaseOk b z) : NamX (nmOf b z) := by
  have e : ∀ i, (nmOf b z i).cps.toList = if i < 20 then b i else z ++ List.replicate (i - 20) 97 := fun i => by unfold nmOf; simp
  have lt : ∀ i j, ((nmOf b z i).cps.toList < (nmOf b z j).cps.toList) ↔ i < j := fun i j => by
    rw [e, e]
    by_cases hi : i < 20
    · by_cases hj : j < 20
      · rw [if_pos hi, if_pos hj]
        exact decide_eq_decide.mp (ok.lt i hi j hj)
      · rw [if_pos hi, if_neg hj]
        exact ⟨fun _ => by omega, fun _ => lt_app _ (ok.top i hi)⟩
    · by_cases hj : j < 20
      · rw [if_neg hi, if_pos hj]
        exact ⟨fun h => absurd (lt_app (List.replicate (i - 20) 97) (ok.top j hj)) (natL_asym h), fun h => by omega⟩
      · rw [if_neg hi, if_neg hj, app_lt, rep_lt]
        omega
  refine { lt := fun i j => decide_eq_decide.mpr (lt i j), inj := fun i j h => ?_, ok := fun i => ?_, name := fun i hi => ?_ }
  · have h1 : ¬ i < j := fun q => by
      have := (lt i j).mpr q
      rw [h] at this
      exact natL_irr _ this
    have h2 : ¬ j < i := fun q => by
      have := (lt j i).mpr q
      rw [h] at this
      exact natL_irr _ this
    omega
  · show (nmOf b z i).cps.all _ = true
    rw [Array.all_eq_true_iff_forall_mem]
    intro c hc
    have hc' : c ∈ (nmOf b z i).cps.toList := by simpa using hc
    rw [e] at hc'
    have lo : ∀ c ∈ lettersS.cps.toList, decide (c < 0x110000) = true := by decide +kernel
    by_cases hi : i < 20
    · rw [if_pos hi] at hc'
      exact lo c ((ok.name i hi).2.2 c hc')
    · rw [if_neg hi] at hc'
      rcases List.mem_append.mp hc' with h | h
      · exact decide_eq_true (ok.zo c h)
      · rw [(List.mem_replicate.mp h).2]
        rfl
  · obtain ⟨h1, h2, h3⟩ := ok.name i hi
    have el : (nmOf b z i).length = (b i).length := by
      show (nmOf b z i).cps.size = _
      unfold nmOf
      rw [if_pos hi, List.size_toArray]
    exact ⟨by rw [el]; exact h1, by rw [el]; exact h2, fun c hc => by
      rw [e, if_pos hi] at hc
      exact h3 c hc⟩
/-- sa, sb, .. -/
def bS (i : Nat) : List Nat := [115, 97 + i]
abbrev nmS : Nat → Str := nmOf bS [116]
theorem namS : NamX nmS := namX_of ⟨by decide +kernel, by decide +kernel, by decide +kernel, by decide +kernel⟩
/-- a, b, .. -/
def bL (i : Nat) : List Nat := [97 + i]
abbrev nmL : Nat → Str := nmOf bL [122]
theorem namL : NamX nmL := namX_of ⟨by decide +kernel, by decide +kernel, by decide +kernel, by decide +kernel⟩
/-- p, q, .. -/
def bP (i : Nat) : List Nat := if i < 2 then [112 + i] else [122, 97 + i]
abbrev nmP : Nat → Str := nmOf bP [122, 122]
theorem namP : NamX nmP := namX_of ⟨by decide +kernel, by decide +kernel, by decide +kernel, by decide +kernel⟩
end J
/-! _law_web. -/
namespace J
open PySem PySem.Spec L2
/-- i more draws of a bit -/
def Tin.bits (t : Tin) : Nat → Tin
  | 0 => t
  | i + 1 => (takeM (t.bits i) 2).2
def pairsN (m i : Nat) : List (Nat × Nat) := (List.range i).flatMap fun i => ((List.range m).drop (i + 1)).map fun j => (i, j)
def ltP (p q : Nat × Nat) : Bool := if p.1 < q.1 then true else if q.1 < p.1 then false else decide (p.2 < q.2)
def sortT (l : List (Nat × Nat)) : List (Nat × Nat) := l.mergeSort fun a b => !ltP b a
structure WebSt where
  m : Nat
  t3 : Tin
  s : Nat
  t5 : Tin
def webS (t : Tin) : WebSt :=
  let t2 := (takeM (takeM t 1).2 1).2
  let m := 1 + (takeM t2 5).1.toNat
  let t3 := (takeM t2 5).2
  let r := takeM (t3.bits m) 8
  { m := m, t3 := t3, s := if r.1 < ((pairsN m m).length : Int) then r.1.toNat else (pairsN m m).length, t5 := r.2 }
def webC (x : WebSt) : Ch := { m := x.m, sz := [2], wd := fun i => [(takeM (x.t3.bits i) 2).1], ti := sortT (pickM x.s x.t5 (pairsN x.m x.m) []).1 }
def webM (t : Tin) : Ch × Tin := (webC (webS t), (pickM (webS t).s (webS t).t5 (pairsN (webS t).m (webS t).m) []).2)
theorem bits_ok {t : Tin} : ∀ (i : Nat) (m : Int), t.Ok (m + i) → 0 ≤ m → (t.bits i).Ok m
  | 0, m, h, _ => h.mono (by omega)
  | i + 1, m, h, hm => take_ok (bits_ok i (m + 1) (h.mono (by omega)) (by omega)) hm
theorem pairsN_mem {m i : Nat} {p : Nat × Nat} (hi : i ≤ m) : p ∈ pairsN m i ↔ p.1 < i ∧ p.1 < p.2 ∧ p.2 < m := by
  unfold pairsN
  rw [List.mem_flatMap]
  constructor
  · rintro ⟨a, ha, h⟩
    obtain ⟨b, hb, rfl⟩ := List.mem_map.mp h
    obtain ⟨k, hk, e⟩ := List.mem_drop_iff_getElem.mp hb
    rw [List.getElem_range] at e
    rw [List.length_range] at hk
    exact ⟨List.mem_range.mp ha, by show a < b; omega, by show b < m; omega⟩
  · rintro ⟨h1, h2, h3⟩
    refine ⟨p.1, List.mem_range.mpr h1, List.mem_map.mpr ⟨p.2, List.mem_drop_iff_getElem.mpr ⟨p.2 - (p.1 + 1), by rw [List.length_range]; omega, ?_⟩, rfl⟩⟩
    rw [List.getElem_range]
    omega
theorem pairs_le : ∀ m, m ≤ 5 → ∀ i, i ≤ m → (pairsN m i).length ≤ 10 := by decide +kernel
theorem pairs_nd : ∀ m, m ≤ 5 → (pairsN m m).Nodup := by decide +kernel
theorem web_m (t : Tin) : 1 ≤ (webS t).m ∧ (webS t).m ≤ 5 := by
  obtain ⟨h1, h2⟩ := take_rng (takeM (takeM t 1).2 1).2 (n := 5) (by decide)
  show 1 ≤ 1 + _ ∧ 1 + _ ≤ 5
  omega
theorem web_s (t : Tin) : (webS t).s ≤ (pairsN (webS t).m (webS t).m).length ∧ (webS t).s ≤ 7 := by
  obtain ⟨h1, h2⟩ := take_rng ((webS t).t3.bits (webS t).m) (n := 8) (by decide)
  show (if (takeM ((webS t).t3.bits (webS t).m) 8).1 < ((pairsN (webS t).m (webS t).m).length : Int) then (takeM ((webS t).t3.bits (webS t).m) 8).1.toNat else (pairsN (webS t).m (webS t).m).length) ≤ _ ∧ (if (takeM ((webS t).t3.bits (webS t).m) 8).1 < ((pairsN (webS t).m (webS t).m).length : Int) then (takeM ((webS t).t3.bits (webS t).m) 8).1.toNat else (pairsN (webS t).m (webS t).m).length) ≤ 7
  split
  · omega
  · omega
theorem web_t3 {t : Tin} {m : Int} (h : t.Ok (m + 3)) (hm : 0 ≤ m) : (webS t).t3.Ok m := take_ok (take_ok (take_ok (h.mono (by omega)) (by omega)) (by omega)) hm
theorem web_t5 {t : Tin} {m : Int} (h : t.Ok (m + 9)) (hm : 0 ≤ m) : (webS t).t5.Ok m := by
  have hw := (web_m t).2
  exact take_ok (bits_ok (t := (webS t).t3) (webS t).m (m + 1) (web_t3 (h.mono (by omega)) (by omega)) (by omega)) hm
theorem sortT_perm (l : List (Nat × Nat)) : (sortT l).Perm l := List.mergeSort_perm _ _
theorem web_ok (t : Tin) : (webM t).1.Ok ∧ (webM t).1.ti.length ≤ 20 := by
  obtain ⟨h1, h2⟩ := web_m t
  obtain ⟨h3, h4⟩ := web_s t
  have pm := pick_mem (webS t).s (webS t).t5 (pairsN (webS t).m (webS t).m) []
  have pl := pick_len (webS t).s (webS t).t5 (pairsN (webS t).m (webS t).m) []
  have sp := sortT_perm (pickM (webS t).s (webS t).t5 (pairsN (webS t).m (webS t).m) []).1
  refine ⟨⟨h1, h2, by show 1 ≤ 20; decide, fun i => rfl, fun p hp => ?_, ?_⟩, ?_⟩
  · have hp' := sp.mem_iff.mp hp
    rcases pm.1 p hp' with z | z
    · cases z
    · obtain ⟨_, a, b⟩ := (pairsN_mem (Nat.le_refl _)).mp z
      exact ⟨a, b⟩
  · exact sp.nodup_iff.mpr (pm.2 (by simpa using pairs_nd _ h2))
  · show (sortT _).length ≤ 20
    rw [sp.length_eq]
    simp only [List.length_nil] at pl
    omega
theorem web_tin {t : Tin} {m : Int} (h : t.Ok (m + 16)) (hm : 0 ≤ m) : (webM t).2.Ok m := pick_ok _ _ _ _ m (web_t5 (h.mono (by have := (web_s t).2; omega)) (by omega)) hm
section
variable {P : Program} {w : World} {K : PySem.W.Frag} {mg : Str → Option Value} {base : Heap} {nm : Nat → Str} {f : Addr} {fd : FuncData} {k : Nat}
theorem ltD_P (H : NamX nm) (p q : Nat × Nat) : ltD (dM nm p) (dM nm q) = ltP p q := by
  rw [ltD, ltAll, ltD_N H, ltD_N H, ltAll, ltD_N H, ltD_N H, ltAll]
  unfold ltP ltN
  by_cases h1 : p.1 < q.1
  · simp [h1]
  · by_cases h2 : q.1 < p.1
    · simp [h1, h2]
    · simp only [h1, h2, decide_false, Bool.false_eq_true, if_false]
      by_cases h3 : p.2 < q.2
      · simp [h3]
      · simp [h3]
theorem sortT_map (H : NamX nm) (l : List (Nat × Nat)) : srtD (l.map (dM nm)) = (sortT l).map (dM nm) := (PySem.W.sort_maps (r := fun a b => !ltP b a) (s := fun a b => !ltD b a) (dM nm) (fun a _ b _ => by rw [ltD_P H])).symm
theorem srt_P (H : NamX nm) (l : List (Nat × Nat)) : SrtOk (l.map (dM nm)) := ⟨fun d hd e he => by
  obtain ⟨a, _, rfl⟩ := List.mem_map.mp hd
  obtain ⟨b, _, rfl⟩ := List.mem_map.mp he
  rw [cmpb]
  simp [cmpbAll, cmpb], .inl fun d hd => by
  obtain ⟨a, _, rfl⟩ := List.mem_map.mp hd
  exact ⟨_, _, rfl⟩, fun d hd => by
  obtain ⟨a, _, rfl⟩ := List.mem_map.mp hd
  exact shp_E H [a.1, a.2]⟩
abbrev s_web : Stmt := topS 60
abbrev N_web : List Str := ["_law_tin", "_law_many", "_law_fields", "_law_most", "_law_ties_so", "_law_tags", "_law_letter", "_law_wide", "_law_lap", "_law_mine", "_law_folk", "_law_high_so", "_law_tag", "_law_pairs", "_law_k", "_law_mate", "_law_ties"]
theorem c_web : FnScope N_web ["_law_tin", "_law_many", "_law_fields", "_law_most", "_law_ties_so"] (defScope s_web) := ⟨rfl, rfl, rfl, by decide +kernel, rfl, by decide +kernel, by decide +kernel⟩
def R_web : RlM := fun M M' As Z => ∃ (a : Addr) (T : List Addr) (t : Tin), t.Ok 16 ∧ M = mTin a T t ∧ M' = mTin a T (webM t).2 ∧ As = [aI 5, aI 1, aI 2, aI 7] ∧ Z = some (aD (dCh nmS (webM t).1))
def lets20 : Str := "abcdefghijklmnopqrst"
theorem tags_eq : (lets20.cps.toList.filter fun _ => true).map (fun c => PyData.str ("s" ++ oneC c)) = (List.range 20).map (eN nmS) := by rfl
theorem f_web {C : Value} (F : Fun K "_law_web" "_law_web" s_web f fd) (C1 : CalM CX0 P w K mg base k "_law_take" C R_take) (C2 : CalM CX0 P w K mg base k "_law_pick" C (R_pick nmS)) (m1 : mg "tuple" = none) (m2 : mg "range" = none) (m3 : mg "enumerate" = none) (m4 : mg "min" = none) (m5 : mg "len" = none) (m6 : mg "sorted" = none) :
    FnOk P w K mg base CX0 (k + 1) f fd ["_law_tin", "_law_many", "_law_fields", "_law_most", "_law_ties_so"] (spM C R_web) := by
  refine fn_jM F c_web (fun M M' As Z ⟨a, T, t, _, e1, e2, e3, e4⟩ => ⟨by rw [e3]; rfl, by rw [e4]; exact (fun z => nomatch z), by rw [e2, e1]; exact mTin_prec⟩) fun cdv A outer s0 H0 E M M' As Z hr ⟨a, T, t, tok, e1, e2, e3, e4⟩ => ?_
  subst e2 e1 e3
  cases e4
  have hu := hr.un
  obtain ⟨x, hx⟩ : ∃ x, x = webS t := ⟨_, rfl⟩
  obtain ⟨wm1, wm5⟩ := web_m t
  obtain ⟨ws1, ws7⟩ := web_s t
  have wt3 := web_t3 (t := t) (m := 13) (tok.mono (by omega)) (by omega)
  have wt5 := web_t5 (t := t) (m := 7) (tok.mono (by omega)) (by omega)
  rw [← hx] at wm1 wm5 ws1 ws7 wt3 wt5
  have eC : (webM t).1 = webC x := by rw [hx]; rfl
  have eT : (webM t).2 = (pickM x.s x.t5 (pairsN x.m x.m) []).2 := by rw [hx]; rfl
  rw [eC, eT]
  -- the slots
  let δi : Tin → Option Cell → Option Cell → Option Cell → Option Cell → Option Cell → Option Cell → Option Cell → DSt := fun t c5 c7 c9 c10 c12 c13 c14 => [some (.mut (mTin a T t)), some (.val (aI 5)), some (.val (aI 1)), some (.val (aI 2)), some (.val (aI 7)), c5, none, c7, none, c9, c10, none, c12, c13, c14, none, none]
  refine jb_lc (own := [("_law_letter", 6)]) (ws := [6]) 5 lets20.cps.toList (fun c => .str (oneC c)) (fun c => (dwipe (δi t none none none none none none none) [6]).set 6 (some (.val (aS (oneC c))))) (fun _ => true) (fun c => .str ("s" ++ oneC c)) (ji_str (x := lets20) je_str (by decide)) (blkOk_by (N := N_web) (sc := defScope s_web) (by decide +kernel)) (fun c hc s0 H1 Cc cl fp => jg_of (gn_mk c_web.nd rfl (.inl rfl) (.inr rfl) s0 H1 Cc cl fp)) (fun c hc _ _ _ _ _ => jts_nil) (fun c hc _ _ _ _ _ _ => je_cat je_str (je_v 6) (show 1 + 1 ≤ 1000 by decide)) (show 5 < 17 by decide) ?_ rfl c_web.nd
  rw [tags_eq]
  let dTags : Option Cell := some (.val (aD (dNL nmS (List.range 20))))
  show JB _ _ (δi t dTags none none none none none none) _
  -- wide
  let t1 := (takeM t 1).2
  let t2 := (takeM t1 1).2
  have z1 : ∀ t : Tin, (takeM t 1).1 = 0 := fun t => by
    have := take_rng t (n := 1) (by decide)
    omega
  refine jb_set (A := aD (dW [2])) (δ1 := δi t2 dTags none none none none none none) 7 c_web.nd (je_tupleL m1 (JN.dat (jn_lcG (own := [("_law_lap", 8)]) (xs := [aI 0]) (δ1 := δi t1 dTags none none none none none none) (fun i => if i = 0 then δi t1 dTags none none none none none none else δi t2 dTags none none none none none none) (fun i => if i = 0 then [] else [PyData.int 2])
    (ji_range (n := 1) m2 (JE.eq (je_add je_int (je_callM (As := [aI 1]) (M := mTin a T t) (M' := mTin a T t1) (Z := aI (takeM t 1).1) 0 C1 hr (Nat.le_refl _) (ja_cons (je_v 2) ja_nil) rfl rfl ⟨a, T, t, 1, rfl, rfl, rfl, rfl, tok.mono (by omega), by decide, by decide⟩)) (by rw [z1]; rfl)) ⟨by decide, by decide⟩) rfl rfl (fun i A' hA => ?_) rfl c_web.nd (blkOk_by (N := N_web) (sc := defScope s_web) (by decide +kernel))))) ?_
  · have i0 : i = 0 := by
      have := (List.getElem?_eq_some_iff.mp hA).1
      simp at this
      exact this
    subst i0
    cases hA
    refine ⟨[8], (δi t1 dTags none none none none none none).set 8 (some (.val (aI 0))), (δi t1 dTags none none none none none none).set 8 (some (.val (aI 0))), true, by decide, fun s0 H1 Cc cl fp => jg_of (gn_mk c_web.nd rfl (.inl rfl) (.inr rfl) s0 H1 Cc cl fp), fun _ _ _ _ _ => jts_nil, fun _ => ⟨(δi t2 dTags none none none none none none).set 8 (some (.val (aI 0))), .int 2, fun _ _ _ _ _ => JE.eq (je_add je_int (je_callM (As := [aI 1]) (M := mTin a T t1) (M' := mTin a T t2) (Z := aI (takeM t1 1).1) 0 C1 hr (Nat.le_refl _) (ja_cons (JE.eq (je_sub (je_v 3) je_int) (d' := .int 1) rfl) ja_nil) rfl rfl ⟨a, T, t1, 1, rfl, rfl, rfl, rfl, (take_ok (m := 1) (tok.mono (by omega)) (by omega)).mono (by omega), by decide, by decide⟩)) (by rw [z1]; rfl), rfl, rfl⟩, fun z => by cases z⟩
  let dWide : Option Cell := some (.val (aD (dW [2])))
  show JB _ _ (δi t2 dTags dWide none none none none none) _
  -- mine
  have t2ok : t2.Ok 14 := take_ok (take_ok (tok.mono (by omega)) (by omega)) (by omega)
  obtain ⟨q1, q2⟩ := take_rng t2 (n := 5) (by decide)
  have em : (x.m : Int) = 1 + (takeM t2 5).1 := by
    rw [hx]
    show ((1 + (takeM t2 5).1.toNat : Nat) : Int) = _
    omega
  have e3 : (takeM t2 5).2 = x.t3 := by rw [hx]; rfl
  refine jb_set (A := aD (dNL nmS (List.range x.m))) (δ1 := δi x.t3 dTags dWide none none none none none) 9 c_web.nd (JE.eq (je_slL (ds := (List.range 20).map (eN nmS)) (δ1 := δi t2 dTags dWide none none none none none) (δ2 := δi t2 dTags dWide none none none none none) (je_v 5) jo_none (jo_some (JE.eq (je_add je_int (je_callM (As := [aI 5]) (M := mTin a T t2) (M' := mTin a T x.t3) (Z := aI (takeM t2 5).1) 0 C1 hr (Nat.le_refl _) (ja_cons (je_v 1) ja_nil) rfl rfl ⟨a, T, t2, 5, rfl, by rw [e3], rfl, rfl, t2ok.mono (by omega), by decide, by decide⟩)) (d' := .int (x.m : Int)) (congrArg PyData.int em.symm)))) ?_) ?_
  · rw [cutD_to, ← List.map_take]
    refine congrArg (fun (l : List Nat) => PyData.list (l.map (eN nmS))) ?_
    rw [List.take_range, Nat.min_eq_left (by omega)]
  let dMine : Option Cell := some (.val (aD (dNL nmS (List.range x.m))))
  show JB _ _ (δi x.t3 dTags dWide dMine none none none none) _
  -- folk
  let bt : Nat → Int := fun i => (takeM (x.t3.bits i) 2).1
  let δf : Nat → DSt := fun i => δi (x.t3.bits i) dTags dWide dMine none none none none
  obtain ⟨xs, hxs⟩ : ∃ xs, xs = (List.range x.m).map fun i => aD (eN nmS i) := ⟨_, rfl⟩
  have hxl : xs.length = x.m := by rw [hxs, List.length_map, List.length_range]
  refine jb_set (A := aD (.tuple ((List.range xs.length).map (dS nmS (webC x))))) (δ1 := δf xs.length) 10 c_web.nd (je_tupleL m1 (JN.dat (jn_lcG (own := [("_law_tag", 12)]) (xs := xs) (δ1 := δf 0) δf (fun i => (List.range i).map (dS nmS (webC x))) (JI.eq (ji_L (xs := List.range x.m) (enc := eN nmS) (je_v 9)) hxs.symm) rfl rfl (fun i A' hA => ?_) rfl c_web.nd (blkOk_by (N := N_web) (sc := defScope s_web) (by decide +kernel))))) ?_
  · have hi : i < x.m := by
      have := (List.getElem?_eq_some_iff.mp hA).1
      rw [hxl] at this
      exact this
    rw [hxs, List.getElem?_map, List.getElem?_range hi] at hA
    cases hA
    have tb : (x.t3.bits i).Ok 1 := bits_ok i 1 (wt3.mono (by omega)) (by omega)
    let δt : Nat → DSt := fun j => (δf j).set 12 (some (.val (aD (eN nmS i))))
    refine ⟨[12], δt i, δt i, true, by decide, fun s0 H1 Cc cl fp => jg_of (gn_mk c_web.nd rfl (by first | exact .inl rfl | exact .inr rfl) (by first | exact .inr rfl | exact .inl rfl) s0 H1 Cc cl fp), fun _ _ _ _ _ => jts_nil, fun _ => ⟨δt (i + 1), dS nmS (webC x) i, fun _ _ _ _ _ => je_tup (ds := [eN nmS i, dW [bt i]]) (ja_cons (je_v 12) (ja_cons (je_tupleL (ds := [PyData.int (bt i)]) m1 (JN.dat (jn_lcG (own := [("_law_high_so", 11)]) (xs := [aI 2]) (δ1 := δt i) (fun n => if n = 0 then δt i else δt (i + 1)) (fun n => if n = 0 then [] else [PyData.int (bt i)]) (ji_T (xs := [(2 : Int)]) (enc := PyData.int) (je_v 7)) rfl rfl (fun n A2 hA2 => ?_) rfl c_web.nd (blkOk_by (N := N_web) (sc := relS _ (defScope s_web)) (by decide +kernel))))) ja_nil)), rfl, ?_⟩, fun z => by cases z⟩
    · have i0 : n = 0 := by
        have := (List.getElem?_eq_some_iff.mp hA2).1
        simp at this
        exact this
      subst i0
      cases hA2
      refine ⟨[11], (δt i).set 11 (some (.val (aI 2))), (δt i).set 11 (some (.val (aI 2))), true, by decide, fun s0 H1 Cc cl fp => jg_of (gn_mk c_web.nd rfl (.inl rfl) (.inr rfl) s0 H1 Cc cl fp), fun _ _ _ _ _ => jts_nil, fun _ => ⟨(δt (i + 1)).set 11 (some (.val (aI 2))), .int (bt i), fun _ _ _ _ _ => je_callM (As := [aI 2]) (M := mTin a T (x.t3.bits i)) (M' := mTin a T (x.t3.bits (i + 1))) (Z := aI (bt i)) 0 C1 hr (Nat.le_refl _) (ja_cons (je_v 11) ja_nil) rfl rfl ⟨a, T, x.t3.bits i, 2, rfl, rfl, rfl, rfl, tb, by decide, by decide⟩, rfl, rfl⟩, fun z => by cases z⟩
    · show (List.range (i + 1)).map _ = _
      rw [List.range_succ, List.map_append]
      rfl
  rw [hxl]
  let dFolk : Option Cell := some (.val (aD (.tuple (dSs nmS (webC x)))))
  show JB _ _ (δi (x.t3.bits x.m) dTags dWide dMine dFolk none none none) _
  -- pairs
  refine jb_set (A := aD (.list ((pairsN x.m 0).map (dM nmS)))) 13 c_web.nd (je_lst (ds := []) ja_nil) ?_
  let δp : Nat → Option Cell → Option Cell → DSt := fun i c12 c14 => δi (x.t3.bits x.m) dTags dWide dMine dFolk c12 (some (.val (aD (.list ((pairsN x.m i).map (dM nmS)))))) c14
  show JB _ _ (δp 0 none none) _
  refine jb_cons (M := fun d => ∃ c12 c14, d = δp x.m c12 c14) (js_for (I := fun i d => i ≤ x.m ∧ ∃ c12 c14, d = δp i c12 c14) (ji_enumL (As := ((List.range x.m).map (eN nmS)).map aD) m3 (je_LA (je_v 9))) PassesOwn.never rfl ⟨Nat.zero_le _, none, none, rfl⟩ (fun i A' δ' hA ⟨hi, c12, c14, e⟩ => ?_) (fun δ' ⟨_, c12, c14, e⟩ => ⟨c12, c14, ?_⟩)) fun δ' ⟨c12, c14, e⟩ => ?_
  · subst e
    obtain ⟨Cq, hCq, rfl⟩ := enumA_at hA
    have hi2 : i < x.m := by
      have := (List.getElem?_eq_some_iff.mp hCq).1
      rw [List.length_map, List.length_map, List.length_range] at this
      exact this
    rw [List.getElem?_map, List.getElem?_map, List.getElem?_range hi2] at hCq
    cases hCq
    refine ⟨_, _, jg_TA rfl (jga_cons (jg_name 14 c_web.nd) (jga_cons (jg_name 12 c_web.nd) jga_nil)), ?_⟩
    let δw : DSt := δp i (some (.val (aD (eN nmS i)))) (some (.val (aI (i : Nat))))
    have pl1 := pairs_le x.m wm5 i hi
    have pl2 := pairs_le x.m wm5 (i + 1) hi2
    have ep : pairsN x.m (i + 1) = pairsN x.m i ++ ((List.range x.m).drop (i + 1)).map fun j => (i, j) := by
      unfold pairsN
      rw [List.range_succ, List.flatMap_append]
      simp
    refine jb_cons (M := fun d => i + 1 ≤ x.m ∧ ∃ c12 c14, d = δp (i + 1) c12 c14) (js_set (A := aD (.list ((pairsN x.m (i + 1)).map (dM nmS)))) 13 (JE.eq (je_addL (δ1 := δw) (es := (((List.range x.m).drop (i + 1)).map fun j => (i, j)).map (dM nmS)) (je_v 13) (JE.eq (JN.dat (jn_m (δ1 := δw) 15 ((List.range x.m).drop (i + 1)) (eN nmS) (fun j => dM nmS (i, j)) (ji_L (JE.eq (je_slL (ds := (List.range x.m).map (eN nmS)) (je_v 9) (jo_some (je_add (je_v 14) je_int)) jo_none) ?_)) (blkOk_by (N := N_web) (sc := defScope s_web) (by decide +kernel)) (fun j hj _ _ _ _ _ => je_tup (ds := [eN nmS i, eN nmS j]) (ja_cons (je_v 12) (ja_cons (je_v 15) ja_nil))) rfl c_web.nd)) ?_) ?_) ?_) ⟨hi2, some (.val (aD (eN nmS i))), some (.val (aI (i : Nat))), rfl⟩ c_web.nd) fun δ' h => jb_nil h
    · have h := cutD_from (ds := (List.range x.m).map (eN nmS)) (i + 1)
      rw [← List.map_drop] at h
      exact congrArg PyData.list h
    · show PyData.list _ = PyData.list _
      rw [List.map_map]
      rfl
    · rw [ep, List.length_append] at pl2
      rw [List.length_map, List.length_map]
      exact small (by omega)
    · rw [ep, List.map_append]
  · rw [e, enumA_len, List.length_map, List.length_map, List.length_range]
  subst e
  -- ties
  obtain ⟨r1, r2⟩ := take_rng (x.t3.bits x.m) (n := 8) (by decide)
  have e5 : (takeM (x.t3.bits x.m) 8).2 = x.t5 := by rw [hx]; rfl
  have es : (if (takeM (x.t3.bits x.m) 8).1 < ((pairsN x.m x.m).length : Int) then (takeM (x.t3.bits x.m) 8).1 else ((pairsN x.m x.m).length : Int)) = (x.s : Int) := by
    have : x.s = (if (takeM (x.t3.bits x.m) 8).1 < ((pairsN x.m x.m).length : Int) then (takeM (x.t3.bits x.m) 8).1.toNat else (pairsN x.m x.m).length) := by rw [hx]; rfl
    rw [this]
    split
    · omega
    · rfl
  have pl := pairs_le x.m wm5 x.m (Nat.le_refl _)
  have t3b : (x.t3.bits x.m).Ok 8 := bits_ok x.m 8 (wt3.mono (by omega)) (by omega)
  let tp := (pickM x.s x.t5 (pairsN x.m x.m) []).2
  let tl := (pickM x.s x.t5 (pairsN x.m x.m) []).1
  let δq : Tin → DSt := fun t => δi t dTags dWide dMine dFolk c12 (some (.val (aD (.list ((pairsN x.m x.m).map (dM nmS)))))) c14
  show JB _ _ (δq (x.t3.bits x.m)) _
  refine jb_set (A := aD (.list (tl.map (dM nmS)))) (δ1 := δq tp) 16 c_web.nd (je_callM (As := [aD (.list ((pairsN x.m x.m).map (dM nmS))), aI (x.s : Int)]) (M0 := mTin a T (x.t3.bits x.m)) (M := mTin a T x.t5) (M' := mTin a T tp) (δ1 := δq x.t5) 0 C2 hr (Nat.le_refl _) (ja_cons (je_v 13) (ja_cons (JE.eq (je_min2 m4 rfl (JE.eq (je_lenL (ds := (pairsN x.m x.m).map (dM nmS)) m5 (je_v 13)) (by rw [List.length_map])) (je_callM (As := [aI 8]) (M := mTin a T (x.t3.bits x.m)) (M' := mTin a T x.t5) (Z := aI (takeM (x.t3.bits x.m) 8).1) 0 C1 hr (Nat.le_refl _) (ja_cons (JE.eq (je_add (je_v 4) je_int) (d' := .int 8) rfl) ja_nil) rfl rfl ⟨a, T, x.t3.bits x.m, 8, rfl, by rw [e5], rfl, rfl, t3b.mono (by omega), by decide, by decide⟩)) (by rw [es])) ja_nil)) rfl rfl ⟨a, T, x.t5, pairsN x.m x.m, x.s, by omega, ws1, wt5.mono (by omega), rfl, rfl, rfl, rfl⟩) ?_
  refine jb_ret (A := aD (dCh nmS (webC x))) (je_tup (ds := [dW [2], .tuple (dSs nmS (webC x)), dMs nmS (webC x)]) (ja_cons (je_v 7) (ja_cons (je_v 10) (ja_cons (je_tupleL m1 (je_sorted (ds := tl.map (dM nmS)) ((sortT tl).map (dM nmS)) (.inl rfl) (srt_P namS tl) ((sortT_perm tl).map _) ?_ m6 rfl hr (by show (A.deeper _).units + 68 < cLine; omega) (je_v 16))) ja_nil)))) (fun _ _ h => h) rfl
  rw [← sortT_map namS]
  exact srtD_pw _
end
end J
/-! _law_cuts. -/
namespace J
open PySem PySem.Spec L2
/-- the states that are drawn -/
def cutM : List Nat → Tin → List Nat × Tin
  | [], t => ([], t)
  | x :: xs, t => (if (takeM t 2).1 == 0 then x :: (cutM xs (takeM t 2).2).1 else (cutM xs (takeM t 2).2).1, (cutM xs (takeM t 2).2).2)
theorem cutM_snoc : ∀ (xs : List Nat) (x : Nat) (t : Tin), cutM (xs ++ [x]) t = ((cutM xs t).1 ++ (if (takeM (cutM xs t).2 2).1 == 0 then [x] else []), (takeM (cutM xs t).2 2).2)
  | [], x, t => by
    show cutM [x] t = _
    rw [cutM, cutM, cutM]
    split <;> rfl
  | y :: xs, x, t => by
    rw [List.cons_append, cutM, cutM_snoc xs x (takeM t 2).2, cutM]
    split <;> rfl
theorem cutM_mem : ∀ (xs : List Nat) (t : Tin), (cutM xs t).1.Sublist xs
  | [], t => List.Sublist.refl _
  | x :: xs, t => by
    rw [cutM]
    split
    · exact (cutM_mem xs _).cons₂ x
    · exact (cutM_mem xs _).cons x
theorem cutM_ok : ∀ (xs : List Nat) (t : Tin) (m : Int), t.Ok (m + xs.length) → 0 ≤ m → (cutM xs t).2.Ok m
  | [], t, m, h, _ => h.mono (by simp)
  | x :: xs, t, m, h, hm => by
    rw [List.length_cons] at h
    exact cutM_ok xs _ m (take_ok (h.mono (by omega)) (by omega)) hm
/-- so many cuts -/
def lapsM (xs : List Nat) : Nat → Tin → List (List Nat) × Tin
  | 0, t => ([], t)
  | n + 1, t => ((lapsM xs n t).1 ++ [0 :: (cutM xs (lapsM xs n t).2).1], (cutM xs (lapsM xs n t).2).2)
def tailM (m : Nat) : List Nat := (List.range m).drop 1
def drawnM (m : Nat) (t : Tin) : List (List Nat) × Tin := lapsM (tailM m) (1 + (takeM t 4).1.toNat) (takeM t 4).2
theorem laps_ok (xs : List Nat) : ∀ (n : Nat) (t : Tin) (m : Int), t.Ok (m + n * xs.length) → 0 ≤ m → (lapsM xs n t).2.Ok m
  | 0, t, m, h, _ => h.mono (by simp)
  | n + 1, t, m, h, hm => by
    refine cutM_ok xs _ m (laps_ok xs n t _ (h.mono ?_) (by omega)) hm
    push_cast
    rw [Int.add_mul]
    omega
theorem laps_mem (xs : List Nat) : ∀ (n : Nat) (t : Tin), (lapsM xs n t).1.length = n ∧ ∀ e ∈ (lapsM xs n t).1, ∃ e', e = 0 :: e' ∧ e'.Sublist xs
  | 0, t => ⟨rfl, fun e h => nomatch h⟩
  | n + 1, t => by
    obtain ⟨h1, h2⟩ := laps_mem xs n t
    refine ⟨by show ((lapsM xs n t).1 ++ [_]).length = _; rw [List.length_append, h1]; rfl, fun e he => ?_⟩
    rcases List.mem_append.mp he with z | z
    · exact h2 e z
    · exact ⟨_, List.mem_singleton.mp z, cutM_mem xs _⟩
theorem tailM_len (m : Nat) : (tailM m).length = m - 1 := by unfold tailM; rw [List.length_drop, List.length_range]
theorem tailM_mem {m : Nat} : (∀ x ∈ tailM m, 0 < x ∧ x < m) ∧ Asc (tailM m) := by
  have hp : (List.range m).Pairwise fun a b => ltN a b = true := List.pairwise_lt_range.imp fun {a b} h => decide_eq_true h
  refine ⟨fun x hx => ?_, hp.sublist (List.drop_sublist 1 _)⟩
  obtain ⟨k, hk, e⟩ := List.mem_drop_iff_getElem.mp hx
  rw [List.getElem_range] at e
  rw [List.length_range] at hk
  omega
theorem drawn_rng (t : Tin) : 1 ≤ 1 + (takeM t 4).1.toNat ∧ 1 + (takeM t 4).1.toNat ≤ 4 := by
  obtain ⟨h1, h2⟩ := take_rng t (n := 4) (by decide)
  omega
theorem drawn_cut {m : Nat} (hm : 1 ≤ m) (t : Tin) : ∀ e ∈ (drawnM m t).1, CutOk m e := fun e he => by
  obtain ⟨e', rfl, sb⟩ := (laps_mem (tailM m) _ _).2 e he
  obtain ⟨h1, h2⟩ := tailM_mem (m := m)
  refine ⟨asc_cons.mpr ⟨fun b hb => (h1 b (sb.subset hb)).1, h2.sublist sb⟩, List.mem_cons_self, fun x hx => ?_⟩
  rcases List.mem_cons.mp hx with z | z
  · omega
  · exact (h1 x (sb.subset z)).2
theorem drawn_cuts {m : Nat} (hm : 1 ≤ m) (t : Tin) : CutsOk m (setL (drawnM m t).1) := ⟨fun e he => drawn_cut hm t e ((setB_mem linL e _).mp he), setB_asc linL _⟩
theorem setL_len (l : List (List Nat)) : (setL l).length ≤ l.length := List.Nodup.length_le_of_subset (asc_nodup linL (setB_asc linL l)) fun x hx => (setB_mem linL x l).mp hx
theorem drawn_len (m : Nat) (t : Tin) : 1 ≤ (setL (drawnM m t).1).length ∧ (setL (drawnM m t).1).length ≤ 4 := by
  have h1 := (laps_mem (tailM m) (1 + (takeM t 4).1.toNat) (takeM t 4).2).1
  have h2 := drawn_rng t
  have h3 := setL_len (drawnM m t).1
  have h4 : (drawnM m t).1.length = 1 + (takeM t 4).1.toNat := h1
  refine ⟨?_, by omega⟩
  cases hl : (drawnM m t).1 with
  | nil => rw [hl] at h4; simp at h4; omega
  | cons a l =>
    have : a ∈ setL (a :: l) := (setB_mem linL a _).mpr List.mem_cons_self
    cases hs : setL (a :: l) with
    | nil => rw [hs] at this; cases this
    | cons b l' => simp
theorem drawn_tin {k : Nat} (hk : k ≤ 5) {t : Tin} {m : Int} (h : t.Ok (m + 17)) (hm : 0 ≤ m) : (drawnM k t).2.Ok m := by
  have h2 := drawn_rng t
  refine laps_ok (tailM k) _ _ m ((take_ok (m := m + 16) (h.mono (by omega)) (by omega)).mono ?_) hm
  rw [tailM_len]
  have : (1 + (takeM t 4).1.toNat) * (k - 1) ≤ 4 * 4 := Nat.mul_le_mul h2.2 (by omega)
  have e : (((1 + (takeM t 4).1.toNat : Nat) : Int) * ((k - 1 : Nat) : Int)) = (((1 + (takeM t 4).1.toNat) * (k - 1) : Nat) : Int) := by push_cast; rfl
  rw [e]
  omega
section
variable {P : Program} {w : World} {K : PySem.W.Frag} {mg : Str → Option Value} {base : Heap} {nm : Nat → Str} {f : Addr} {fd : FuncData} {k : Nat}
abbrev s_cuts : Stmt := topS 63
abbrev N_cuts : List Str := ["_law_tin", "_law_web_here", "_law_tags", "_law_found", "_law_lap", "_law_tag"]
theorem c_cuts : FnScope N_cuts ["_law_tin", "_law_web_here"] (defScope s_cuts) := ⟨rfl, rfl, rfl, by decide +kernel, rfl, by decide +kernel, by decide +kernel⟩
def R_cuts (nm : Nat → Str) : RlM := fun M M' As Z => ∃ (a : Addr) (T : List Addr) (t : Tin) (c : Ch), c.Ok ∧ t.Ok 17 ∧ M = mTin a T t ∧ M' = mTin a T (drawnM c.m t).2 ∧ As = [aD (dCh nm c)] ∧ Z = some (aD (eEs nm (setL (drawnM c.m t).1)))
theorem f_cuts {C : Value} (H : NamX nm) (F : Fun K "_law_cuts" "_law_cuts" s_cuts f fd) (C1 : CalM CX0 P w K mg base k "_law_take" C R_take) (C2 : Cal P w K mg base k "names" (R_names nm)) (m1 : mg "tuple" = none) (m2 : mg "range" = none) (m3 : mg "set" = none) (m4 : mg "sorted" = none) : FnOk P w K mg base CX0 (k + 1) f fd ["_law_tin", "_law_web_here"] (spM C (R_cuts nm)) := by
  refine fn_jM F c_cuts (fun M M' As Z ⟨a, T, t, c, _, _, e1, e2, e3, e4⟩ => ⟨by rw [e3]; rfl, by rw [e4]; exact (fun z => nomatch z), by rw [e2, e1]; exact mTin_prec⟩) fun cdv A outer s0 H0 E M M' As Z hr ⟨a, T, t, c, ok, tok, e1, e2, e3, e4⟩ => ?_
  subst e2 e1 e3
  cases e4
  have hu := hr.un
  have m5 := ok.m5
  have m1' := ok.m1
  refine jb_set (A := aD (dNs nm c)) 2 c_cuts.nd (je_call C2 hr (Nat.le_refl _) (ja_cons (je_v 1) ja_nil) ⟨c, rfl, rfl⟩) ?_
  refine jb_setL 3 c_cuts.nd (jn_lst (ds := []) ja_nil) ?_
  obtain ⟨xs, hxs⟩ : ∃ xs, xs = tailM c.m := ⟨_, rfl⟩
  have hxl : xs.length = c.m - 1 := by rw [hxs, tailM_len]
  let t1 := (takeM t 4).2
  have t1ok : t1.Ok 16 := take_ok (tok.mono (by omega)) (by omega)
  obtain ⟨n, hn⟩ : ∃ n, n = 1 + (takeM t 4).1.toNat := ⟨_, rfl⟩
  obtain ⟨q1, q2⟩ := take_rng t (n := 4) (by decide)
  have hn4 : n ≤ 4 := by omega
  have eD : drawnM c.m t = lapsM xs n t1 := by rw [hn, hxs]; rfl
  rw [eD]
  let δi : Tin → List (List Nat) → Option Cell → DSt := fun t l c4 => [some (.mut (mTin a T t)), some (.val (aD (dCh nm c))), some (.val (aD (dNs nm c))), some (.mut (mL (l.map (eE nm)))), c4, none]
  refine jb_cons (M := fun d => ∃ c4, d = δi (lapsM xs n t1).2 (lapsM xs n t1).1 c4) (js_for (I := fun i d => i ≤ n ∧ ∃ c4, d = δi (lapsM xs i t1).2 (lapsM xs i t1).1 c4) (ji_range (n := (n : Int)) m2 (JE.eq (je_add je_int (je_callM (As := [aI 4]) (M := mTin a T t) (M' := mTin a T t1) (Z := aI (takeM t 4).1) 0 C1 hr (Nat.le_refl _) (ja_cons je_int ja_nil) rfl rfl ⟨a, T, t, 4, rfl, rfl, rfl, rfl, tok.mono (by omega), by decide, by decide⟩)) (congrArg PyData.int (show (1 + (takeM t 4).1 : Int) = n by omega))) ⟨by omega, by omega⟩) PassesOwn.never rfl ⟨Nat.zero_le _, none, rfl⟩ (fun i A' δ' hA ⟨hi, c4, e⟩ => ?_) (fun δ' ⟨_, c4, e⟩ => ⟨c4, ?_⟩)) fun δ' ⟨c4, e⟩ => ?_
  · subst e
    have hi2 : i < n := by
      have := (List.getElem?_eq_some_iff.mp hA).1
      rw [List.length_map, List.length_range] at this
      omega
    refine ⟨_, _, jg_name 4 c_cuts.nd, ?_⟩
    obtain ⟨L, hL⟩ : ∃ L, L = lapsM xs i t1 := ⟨_, rfl⟩
    have lm := (laps_mem xs i t1).1
    have Lok : L.2.Ok 4 := by
      rw [hL]
      refine laps_ok xs i t1 4 (t1ok.mono ?_) (by omega)
      rw [hxl]
      have : i * (c.m - 1) ≤ 3 * 4 := Nat.mul_le_mul (by omega) (by omega)
      have e : ((i : Int) * ((c.m - 1 : Nat) : Int)) = ((i * (c.m - 1) : Nat) : Int) := by push_cast; rfl
      rw [e]
      omega
    rw [← hL] at lm ⊢
    have eLp : lapsM xs (i + 1) t1 = (L.1 ++ [0 :: (cutM xs L.2).1], (cutM xs L.2).2) := by rw [hL]; rfl
    let δw : Tin → DSt := fun t => δi t L.1 (some (.val A'))
    let st : Nat → Tin := fun j => (cutM (xs.take j) L.2).2
    let δs : Nat → DSt := fun j => δw (st j)
    obtain ⟨ys, hys⟩ : ∃ ys, ys = xs.map fun x => aD (eN nm x) := ⟨_, rfl⟩
    have hyl : ys.length = xs.length := by rw [hys, List.length_map]
    have etl : (List.range c.m).map (eN nm) = eN nm 0 :: xs.map (eN nm) := by
      obtain ⟨m, hm⟩ : ∃ m, c.m = m + 1 := ⟨c.m - 1, by omega⟩
      rw [hxs]
      unfold tailM
      rw [hm, List.range_succ_eq_map]
      rfl
    have sub := cutM_mem xs L.2
    have sl := sub.length_le
    refine jb_cons (M := fun d => i + 1 ≤ n ∧ ∃ c4, d = δi (lapsM xs (i + 1) t1).2 (lapsM xs (i + 1) t1).1 c4) (js_expr (je_append (δ1 := δs ys.length) (ds := L.1.map (eE nm)) (d := eE nm (0 :: (cutM xs L.2).1)) 3 rfl (JE.eq (je_addT (ds := [eN nm 0]) (es := (cutM (xs.take ys.length) L.2).1.map (eN nm)) (JE.eq (je_slT (ds := (List.range c.m).map (eN nm)) (je_v 2) jo_none (jo_some je_int)) ?_) (je_tupleL m1 (JN.dat (jn_lcG (own := [("_law_tag", 5)]) (xs := ys) (δ1 := δw L.2) δs (fun j => (cutM (xs.take j) L.2).1.map (eN nm)) (JI.eq (ji_tup (je_slT (ds := (List.range c.m).map (eN nm)) (je_v 2) (jo_some je_int) jo_none)) ?_) rfl rfl (fun j A2 hA2 => ?_) rfl c_cuts.nd (blkOk_by (N := N_cuts) (sc := defScope s_cuts) (by decide +kernel))))) ?_) ?_) rfl (by rw [List.length_map, lm]; exact small (by omega))) ⟨hi2, some (.val A'), ?_⟩) fun δ' h => jb_nil h
    · show PyData.tuple (cutD _ none (some (1 : Int))) = _
      rw [show ((1 : Int)) = ((1 : Nat) : Int) from rfl, cutD_to, etl]
      rfl
    · rw [show ((1 : Int)) = ((1 : Nat) : Int) from rfl, cutD_from, etl, hys]
      show (xs.map _).map _ = _
      rw [List.map_map]
      rfl
    · have hj : j < xs.length := by
        have := (List.getElem?_eq_some_iff.mp hA2).1
        rw [hyl] at this
        exact this
      have hxj : xs[j]? = some xs[j] := List.getElem?_eq_getElem hj
      rw [hys, List.getElem?_map, hxj] at hA2
      cases hA2
      have et : xs.take (j + 1) = xs.take j ++ [xs[j]] := by rw [List.take_add_one, hxj]; rfl
      have stok : (st j).Ok 1 := cutM_ok (xs.take j) L.2 1 (Lok.mono (by rw [List.length_take]; omega)) (by omega)
      have es1 : st (j + 1) = (takeM (st j) 2).2 := by
        show (cutM (xs.take (j + 1)) L.2).2 = _
        rw [et, cutM_snoc]
      have eo1 : (cutM (xs.take (j + 1)) L.2).1 = (cutM (xs.take j) L.2).1 ++ (if (takeM (st j) 2).1 == 0 then [xs[j]] else []) := by rw [et, cutM_snoc]
      refine ⟨[5], (δs j).set 5 (some (.val (aD (eN nm xs[j])))), (δs (j + 1)).set 5 (some (.val (aD (eN nm xs[j])))), (takeM (st j) 2).1 == 0, by decide, fun s0 H1 Cc cl fp => jg_of (gn_mk c_cuts.nd rfl (by first | exact .inl rfl | exact .inr rfl) (by first | exact .inr rfl | exact .inl rfl) s0 H1 Cc cl fp), fun _ _ _ _ _ => jts_one (jt_cmp op_eq rop_eqI (je_callM (As := [aI 2]) (M := mTin a T (st j)) (M' := mTin a T (st (j + 1))) (Z := aI (takeM (st j) 2).1) 0 C1 hr (Nat.le_refl _) (ja_cons je_int ja_nil) rfl rfl ⟨a, T, st j, 2, rfl, by rw [es1], rfl, rfl, stok, by decide, by decide⟩) je_int), fun hb => ⟨(δs (j + 1)).set 5 (some (.val (aD (eN nm xs[j])))), eN nm xs[j], fun _ _ _ _ _ => je_v 5, rfl, ?_⟩, fun hb => ⟨rfl, ?_⟩⟩
      · rw [eo1, if_pos hb, List.map_append]
        rfl
      · rw [eo1, if_neg (by rw [hb]; exact Bool.false_ne_true), List.append_nil]
    · rw [List.length_map]
      have : (cutM (xs.take ys.length) L.2).1.length ≤ (xs.take ys.length).length := (cutM_mem _ _).length_le
      rw [List.length_take] at this
      exact small (by show 1 + _ ≤ 1000; omega)
    · rw [hyl, List.take_length]
      rfl
    · rw [eLp]
      have e1 : (L.1 ++ [0 :: (cutM xs L.2).1]).map (eE nm) = L.1.map (eE nm) ++ [eE nm (0 :: (cutM xs L.2).1)] := by rw [List.map_append]; rfl
      have e2 : st ys.length = (cutM xs L.2).2 := by
        show (cutM (xs.take ys.length) L.2).2 = _
        rw [hyl, List.take_length]
      show _ = ([some (.mut (mTin a T (cutM xs L.2).2)), _, _, some (.mut (mL ((L.1 ++ [0 :: (cutM xs L.2).1]).map (eE nm)))), _, _] : DSt)
      rw [e1, ← e2]
      rfl
  · rw [e, List.length_map, List.length_range]
    rfl
  subst e
  refine jb_frz (ds := (lapsM xs n t1).1.map (eE nm)) 3 rfl ?_
  have hc := drawn_cut ok.m1 t
  rw [eD] at hc
  have si := setIs_L H (lapsM xs n t1).1
  have hl := (laps_mem xs n t1).1
  have hev : ∀ e ∈ (lapsM xs n t1).1, Ev 5 e := fun e he => ⟨(hc e he).asc, (fun z => by have := (hc e he).zero; rw [z] at this; cases this), fun x hx => Nat.lt_of_lt_of_le ((hc e he).lt x hx) ok.m5⟩
  exact jb_ret (je_tupleL m1 (je_sortedSet (ds := (lapsM xs n t1).1.map (eE nm)) ((setL (lapsM xs n t1).1).map (eE nm)) (srt_E H _ fun e he => (hev e he).ne) (by rw [List.length_map, hl]; omega) si.nd si.mem si.asc m4 rfl hr (by show (A.deeper _).units + 68 < cLine; omega) (je_set (.inl rfl) (kd_E H _ hev) (by rw [List.length_map, hl]; omega) m3 rfl hr (je_v 3)))) (fun _ _ h => h) rfl
end
end J
/-! The plain law: families. -/
namespace J
/-- a state in each -/
def Com (F : List (List Nat)) : Prop := ∃ x, ∀ e ∈ F, x ∈ e
theorem meet_iff {a b : List Nat} : meetM a b = true ↔ ∃ x, x ∈ a ∧ x ∈ b := by
  unfold meetM
  rw [List.any_eq_true]
  exact ⟨fun ⟨x, h1, h2⟩ => ⟨x, h1, List.contains_iff_mem.mp h2⟩, fun ⟨x, h1, h2⟩ => ⟨x, h1, List.contains_iff_mem.mpr h2⟩⟩
theorem com_mem {fam : List (List Nat)} (h : fam ≠ []) {x : Nat} : x ∈ commonM fam ↔ ∀ e ∈ fam, x ∈ e := by
  unfold commonM
  rw [List.mem_filter, List.all_eq_true]
  cases fam with
  | nil => exact absurd rfl h
  | cons a l =>
    constructor
    · exact fun ⟨_, h2⟩ e he => List.contains_iff_mem.mp (h2 e he)
    · exact fun h2 => ⟨h2 a List.mem_cons_self, fun e he => List.contains_iff_mem.mpr (h2 e he)⟩
theorem com_snoc {fam : List (List Nat)} (h : fam ≠ []) (g : List Nat) : commonM (fam ++ [g]) = (commonM fam).filter fun n => g.contains n := by
  unfold commonM
  have e : (fam ++ [g]).headD [] = fam.headD [] := by
    cases fam with
    | nil => exact absurd rfl h
    | cons a l => rfl
  rw [e, List.filter_filter]
  refine List.filter_congr fun n _ => ?_
  rw [List.all_append]
  simp [Bool.and_comm]
theorem filter_lt {l : List Nat} {x : Nat} {p : Nat → Bool} (h : x ∈ l) (hp : p x = false) : (l.filter p).length < l.length := by
  have h1 := List.length_filter_le p l
  by_cases q : (l.filter p).length = l.length
  · have := List.length_filter_eq_length_iff.mp q x h
    rw [hp] at this
    cases this
  · omega
/-- some events that meet two by two, without a common state: then family_from finds some -/
theorem famM_compl {es : List (List Nat)} : ∀ (n : Nat) (fam G : List (List Nat)), fam ≠ [] → (∀ g ∈ G, g ∈ es) → (∀ a ∈ fam, ∀ b ∈ G, meetM b a = true) → (∀ a ∈ G, ∀ b ∈ G, meetM a b = true) → (∀ x, (∀ e ∈ fam, x ∈ e) → ∃ g ∈ G, x ∉ g) → (commonM fam).length ≤ n → famM es n fam ≠ none
  | n, fam, G, ne, hG, m1, m2, nc, hl => by
    cases hc : commonM fam with
    | nil => rw [famM_e (by rw [hc]; rfl)]; exact fun z => nomatch z
    | cons x xs =>
      have hx : x ∈ commonM fam := by rw [hc]; exact List.mem_cons_self
      obtain ⟨g, hg, hxg⟩ := nc x ((com_mem ne).mp hx)
      cases n with
      | zero => rw [hc] at hl; simp at hl
      | succ n =>
        rw [famM_s hc]
        have lt := filter_lt hx (p := fun n => g.contains n) (by
          cases q : g.contains x with
          | false => rfl
          | true => exact absurd (List.contains_iff_mem.mp q) hxg)
        have ih := famM_compl n (fam ++ [g]) G (by simp) hG (fun a ha b hb => by
          rcases List.mem_append.mp ha with z | z
          · exact m1 a z b hb
          · rw [List.mem_singleton.mp z]
            exact m2 b hb g hg) m2 (fun y hy => nc y fun e he => hy e (List.mem_append_left _ he)) (by rw [com_snoc ne]; omega)
        intro z
        have h2 := List.findSome?_eq_none_iff.mp z g (hG g hg)
        rw [if_pos (by
          rw [Bool.and_eq_true, Bool.not_eq_true', List.all_eq_true]
          exact ⟨by
            cases q : g.contains x with
            | false => rfl
            | true => exact absurd (List.contains_iff_mem.mp q) hxg, fun o ho => m1 o ho g hg⟩)] at h2
        exact ih h2
/-- what family_from finds -/
theorem famM_sound {es : List (List Nat)} (hne : ∀ e ∈ es, e ≠ []) : ∀ (n : Nat) (fam r : List (List Nat)), famM es n fam = Option.some r → fam ≠ [] → (∀ a ∈ fam, ∀ b ∈ fam, meetM a b = true) → r ≠ [] ∧ (∀ a ∈ r, ∀ b ∈ r, meetM a b = true) ∧ commonM r = []
  | n, fam, r, h, ne, m => by
    cases hc : commonM fam with
    | nil =>
      rw [famM_e (by rw [hc]; rfl)] at h
      cases h
      exact ⟨ne, m, hc⟩
    | cons x xs =>
      cases n with
      | zero => rw [famM_0 (by rw [hc]; rfl)] at h; cases h
      | succ n =>
        rw [famM_s hc] at h
        obtain ⟨e, he, h2⟩ := List.exists_of_findSome?_eq_some h
        split at h2
        · rename_i q
          rw [Bool.and_eq_true, List.all_eq_true] at q
          refine famM_sound hne n _ r h2 (by simp) fun a ha b hb => ?_
          have sym : ∀ {a b}, meetM a b = true → meetM b a = true := fun h => by
            obtain ⟨y, h1, h2⟩ := meet_iff.mp h
            exact meet_iff.mpr ⟨y, h2, h1⟩
          have self : meetM e e = true := by
            cases e with
            | nil => exact absurd rfl (hne _ he)
            | cons y l => exact meet_iff.mpr ⟨y, List.mem_cons_self, List.mem_cons_self⟩
          rcases List.mem_append.mp ha with za | za <;> rcases List.mem_append.mp hb with zb | zb
          · exact m a za b zb
          · rw [List.mem_singleton.mp zb]
            exact sym (q.2 a za)
          · rw [List.mem_singleton.mp za]
            exact q.2 b zb
          · rw [List.mem_singleton.mp za, List.mem_singleton.mp zb]
            exact self
        · cases h2
/-- bits exist just if all families that meet two by two have a common state -/
theorem fine_iff {c : Ch} (ok : c.Ok) (k : Nat) : (mfamM (c.evs k) (k + 1)).isNone = true ↔ ∀ F, F ≠ [] → (∀ e ∈ F, e ∈ c.evs k) → (∀ a ∈ F, ∀ b ∈ F, meetM a b = true) → Com F := by
  have hev := fun e he => evs_ev ok (k := k) e he
  rw [Option.isNone_iff_eq_none]
  constructor
  · intro h F ne hF m
    cases F with
    | nil => exact absurd rfl ne
    | cons e F' =>
      by_cases q : Com (e :: F')
      · exact q
      · exfalso
        have h1 := List.findSome?_eq_none_iff.mp h e (hF e List.mem_cons_self)
        refine famM_compl (k + 1) [e] (e :: F') (by simp) hF (fun a ha b hb => by rw [List.mem_singleton.mp ha]; exact m b hb e List.mem_cons_self) m (fun x hx => ?_) ?_ h1
        · by_cases q2 : ∃ g ∈ e :: F', x ∉ g
          · exact q2
          · exact absurd ⟨x, fun g hg => Classical.byContradiction fun z => q2 ⟨g, hg, z⟩⟩ q
        · have : (commonM [e]).length ≤ e.length := List.length_filter_le _ _
          have := (hev e (hF e List.mem_cons_self)).2
          omega
  · intro h
    unfold mfamM
    rw [List.findSome?_eq_none_iff]
    intro e he
    cases hf : famM (c.evs k) (k + 1) [e] with
    | none => rfl
    | some r =>
      exfalso
      have hne := (hev e he).1.ne
      obtain ⟨h1, h2, h3⟩ := famM_sound (fun e he => (hev e he).1.ne) (k + 1) [e] r hf (by simp) (fun a ha b hb => by
        rw [List.mem_singleton.mp ha, List.mem_singleton.mp hb]
        cases e with
        | nil => exact absurd rfl hne
        | cons y l => exact meet_iff.mpr ⟨y, List.mem_cons_self, List.mem_cons_self⟩)
      obtain ⟨h4, _⟩ := famM_sub hf (fun o ho => by rw [List.mem_singleton.mp ho]; exact he)
      obtain ⟨x, hx⟩ := h r h1 h4 h2
      have := (com_mem h1).mpr hx
      rw [h3] at this
      cases this
/-! ### families of right -/
/-- one bit in all, at each field -/
def Good (N : Nat) (ms : List Nat) (G : List Row) : Prop := ∀ j, j < N → ∃ b, (ms.getD j 0).testBit b = true ∧ ∀ g ∈ G, (g.2.getD j 0).testBit b = true
theorem shared_at {a b : List Nat} {N j : Nat} (ha : a.length = N) (hb : b.length = N) (hj : j < N) : (sharedM a b).getD j 0 = a.getD j 0 &&& b.getD j 0 := by
  unfold sharedM
  have h1 : j < a.length := by omega
  have h2 : j < b.length := by omega
  rw [List.getD_eq_getElem?_getD, List.getElem?_map, (List.getElem?_zip_eq_some (z := (a[j], b[j]))).mpr ⟨List.getElem?_eq_getElem h1, List.getElem?_eq_getElem h2⟩, List.getD_eq_getElem?_getD, List.getD_eq_getElem?_getD, List.getElem?_eq_getElem h1, List.getElem?_eq_getElem h2]
  rfl
theorem shared_len {a b : List Nat} {N : Nat} (ha : a.length = N) (hb : b.length = N) : (sharedM a b).length = N := by
  unfold sharedM
  rw [List.length_map, List.length_zip, ha, hb, Nat.min_self]
theorem mem_getD {l : List Nat} {x : Nat} (h : x ∈ l) : ∃ j, j < l.length ∧ l.getD j 0 = x := by
  obtain ⟨j, hj, e⟩ := List.getElem_of_mem h
  exact ⟨j, hj, by rw [List.getD_eq_getElem?_getD, List.getElem?_eq_getElem hj, e]; rfl⟩
theorem famR_compl {N : Nat} {rows : List Row} (hr : ∀ r ∈ rows, r.2.length = N) : ∀ (n : Nat) (cm ms : List Nat) (pk : List (List Nat)) (G : List Row), (∀ g ∈ G, g ∈ rows) → ms.length = N → Good N ms G → (∀ x ∈ cm, ∃ g ∈ G, x ∉ g.1) → cm.length ≤ n → famR rows n cm ms pk ≠ none
  | n, [], ms, pk, G, _, _, _, _, _ => by rw [famR]; exact fun z => nomatch z
  | 0, x :: xs, _, _, _, _, _, _, _, h => by simp at h
  | n + 1, x :: xs, ms, pk, G, hG, hm, gd, nc, hl => by
    obtain ⟨g, hg, hxg⟩ := nc x List.mem_cons_self
    have hgl := hr g (hG g hg)
    have hng : g.1.contains x = false := by
      cases q : g.1.contains x with
      | false => rfl
      | true => exact absurd (List.contains_iff_mem.mp q) hxg
    have n0 : (sharedM ms g.2).contains 0 = false := by
      cases q : (sharedM ms g.2).contains 0 with
      | false => rfl
      | true =>
        obtain ⟨j, hj, e⟩ := mem_getD (List.contains_iff_mem.mp q)
        rw [shared_len hm hgl] at hj
        rw [shared_at hm hgl hj] at e
        obtain ⟨b, h1, h2⟩ := gd j hj
        have : (ms.getD j 0 &&& g.2.getD j 0).testBit b = true := by rw [Nat.testBit_and, h1, h2 g hg]; rfl
        rw [e, Nat.zero_testBit] at this
        cases this
    have lt := filter_lt (l := x :: xs) List.mem_cons_self (p := fun y => g.1.contains y) hng
    have ih := famR_compl hr n ((x :: xs).filter fun y => g.1.contains y) (sharedM ms g.2) (pk ++ [g.1]) G hG (shared_len hm hgl) (fun j hj => by
      obtain ⟨b, h1, h2⟩ := gd j hj
      exact ⟨b, by rw [shared_at hm hgl hj, Nat.testBit_and, h1, h2 g hg]; rfl, h2⟩) (fun y hy => nc y (List.mem_filter.mp hy).1) (by omega)
    rw [famR]
    intro z
    have h2 := List.findSome?_eq_none_iff.mp z g (hG g hg)
    rw [if_pos (by rw [hng, n0]; rfl)] at h2
    exact ih h2
theorem famR_sound {N : Nat} {rows : List Row} (hr : ∀ r ∈ rows, r.2.length = N) : ∀ (n : Nat) (cm ms : List Nat) (pk : List (List Nat)) (p : List (List Nat) × List Nat), famR rows n cm ms pk = Option.some p → ms.length = N → 0 ∉ ms → ∃ G : List Row, (∀ g ∈ G, g ∈ rows) ∧ Good N ms G ∧ ∀ x ∈ cm, ∃ g ∈ G, x ∉ g.1
  | n, [], ms, pk, p, _, hm, h0 => ⟨[], (fun g hg => nomatch hg), (fun j hj => by
      have hj' : j < ms.length := by omega
      have hne : ms.getD j 0 ≠ 0 := fun z => h0 (by
        rw [← z, List.getD_eq_getElem?_getD, List.getElem?_eq_getElem hj']
        exact List.getElem_mem hj')
      obtain ⟨b, hb⟩ := Nat.exists_testBit_of_ne_zero hne
      exact ⟨b, hb, fun g hg => nomatch hg⟩), fun x hx => nomatch hx⟩
  | 0, x :: xs, _, _, _, h, _, _ => by rw [famR] at h; cases h
  | n + 1, x :: xs, ms, pk, p, h, hm, h0 => by
    rw [famR] at h
    obtain ⟨g, hg, h2⟩ := List.exists_of_findSome?_eq_some h
    split at h2
    · rename_i q
      rw [Bool.and_eq_true] at q
      have hgl := hr g hg
      obtain ⟨G, g1, g2, g3⟩ := famR_sound hr n _ _ _ p h2 (shared_len hm hgl) fun z => by
        have := q.2
        rw [List.contains_iff_mem.mpr z] at this
        cases this
      refine ⟨g :: G, fun y hy => ?_, fun j hj => ?_, fun y hy => ?_⟩
      · rcases List.mem_cons.mp hy with z | z
        · rw [z]; exact hg
        · exact g1 y z
      · obtain ⟨b, h3, h4⟩ := g2 j hj
        rw [shared_at hm hgl hj, Nat.testBit_and, Bool.and_eq_true] at h3
        refine ⟨b, h3.1, fun r hr' => ?_⟩
        rcases List.mem_cons.mp hr' with z | z
        · rw [z]; exact h3.2
        · exact h4 r z
      · by_cases z : y ∈ g.1
        · obtain ⟨g', h3, h4⟩ := g3 y (List.mem_filter.mpr ⟨hy, List.contains_iff_mem.mpr z⟩)
          exact ⟨g', List.mem_cons_of_mem _ h3, h4⟩
        · exact ⟨g, List.mem_cons_self, z⟩
    · cases h2
def bareR (n : Nat) : List Row → Option (List (List Nat) × List Nat)
  | [] => none
  | r :: rs => (famR rs n r.1 r.2 [r.1]).or (bareR n rs)
theorem bare_rec (n : Nat) : ∀ (suf pre : List Row), (suf.zipIdx pre.length).findSome? (fun q => famR ((pre ++ suf).drop (q.2 + 1)) n q.1.1 q.1.2 [q.1.1]) = bareR n suf
  | [], pre => rfl
  | r :: rs, pre => by
    rw [List.zipIdx_cons, List.findSome?_cons, bareR]
    have e1 : (pre ++ r :: rs).drop (pre.length + 1) = rs := by
      rw [List.drop_append, List.drop_of_length_le (by omega)]
      simp
    have ih := bare_rec n rs (pre ++ [r])
    have e2 : pre ++ [r] ++ rs = pre ++ r :: rs := by simp
    rw [e2, List.length_append] at ih
    dsimp only
    rw [e1]
    cases famR rs n r.1 r.2 [r.1] with
    | none => exact ih
    | some b => rfl
theorem bareM_rec (rows : List Row) (n : Nat) : bareM rows n = bareR n rows := bare_rec n rows []
theorem bareR_iff {N n : Nat} : ∀ (rows : List Row), (∀ r ∈ rows, r.2.length = N ∧ 0 ∉ r.2 ∧ r.1.length ≤ n) → (bareR n rows = none ↔ ∀ F : List Row, F ≠ [] → (∀ r ∈ F, r ∈ rows) → (∀ j, j < N → ∃ b, ∀ g ∈ F, (g.2.getD j 0).testBit b = true) → ∃ x, ∀ r ∈ F, x ∈ r.1)
  | [], _ => ⟨fun _ F ne hF _ => by
      cases F with
      | nil => exact absurd rfl ne
      | cons a l => exact absurd (hF a List.mem_cons_self) (by simp), fun _ => rfl⟩
  | r :: rs, hr => by
    have ih := bareR_iff (N := N) (n := n) rs fun q hq => hr q (List.mem_cons_of_mem _ hq)
    obtain ⟨r1, r2, r3⟩ := hr r List.mem_cons_self
    have hrs : ∀ q ∈ rs, q.2.length = N := fun q hq => (hr q (List.mem_cons_of_mem _ hq)).1
    rw [bareR, Option.or_eq_none_iff, ih]
    constructor
    · rintro ⟨h1, h2⟩ F ne hF hg
      by_cases q : r ∈ F
      · refine Classical.byContradiction fun nc => famR_compl hrs n r.1 r.2 [r.1] (F.filter fun g => decide (g ∈ rs)) (fun g hg => of_decide_eq_true (List.mem_filter.mp hg).2) r1 (fun j hj => ?_) (fun x hx => ?_) r3 h1
        · obtain ⟨b, hb⟩ := hg j hj
          exact ⟨b, hb r q, fun g hg => hb g (List.mem_filter.mp hg).1⟩
        · refine Classical.byContradiction fun nx => nc ⟨x, fun g hg => ?_⟩
          by_cases z : g ∈ rs
          · exact Classical.byContradiction fun w => nx ⟨g, List.mem_filter.mpr ⟨hg, decide_eq_true z⟩, w⟩
          · rcases List.mem_cons.mp (hF g hg) with e | e
            · rw [e]; exact hx
            · exact absurd e z
      · exact h2 F ne (fun g hg => by
          rcases List.mem_cons.mp (hF g hg) with e | e
          · rw [e] at hg; exact absurd hg q
          · exact e) hg
    · intro h
      refine ⟨?_, fun F ne hF hg => h F ne (fun g hg => List.mem_cons_of_mem _ (hF g hg)) hg⟩
      cases hf : famR rs n r.1 r.2 [r.1] with
      | none => rfl
      | some p =>
        exfalso
        obtain ⟨G, g1, g2, g3⟩ := famR_sound hrs n r.1 r.2 [r.1] p hf r1 r2
        obtain ⟨x, hx⟩ := h (r :: G) (by simp) (fun g hg => by
          rcases List.mem_cons.mp hg with e | e
          · rw [e]; exact List.mem_cons_self
          · exact List.mem_cons_of_mem _ (g1 g e)) (fun j hj => by
          obtain ⟨b, h1, h2⟩ := g2 j hj
          exact ⟨b, fun g hg => by
            rcases List.mem_cons.mp hg with e | e
            · rw [e]; exact h1
            · exact h2 g e⟩)
        obtain ⟨g, hg, hxg⟩ := g3 x (hx r List.mem_cons_self)
        exact hxg (hx g (List.mem_cons_of_mem _ hg))
end J
/-! The plain law: words by cuts. -/
namespace J
/-- one value in all, at each field -/
def Shw (d : Ch) (F : List (List Nat)) : Prop := ∀ j, j < d.sz.length → ∃ v, ∀ e ∈ F, ∃ i ∈ e, (d.wd i).getD j 0 = v
theorem or_bits (f : Nat → Nat) : ∀ (e : List Nat) (a b : Nat), (e.foldl (fun m i => m ||| 2 ^ f i) a).testBit b = true ↔ a.testBit b = true ∨ ∃ i ∈ e, f i = b
  | [], a, b => by simp
  | x :: e, a, b => by
    rw [List.foldl_cons, or_bits f e, Nat.testBit_or, Bool.or_eq_true, Nat.testBit_two_pow]
    simp only [List.mem_cons, decide_eq_true_eq]
    constructor
    · rintro ((h | h) | ⟨i, h1, h2⟩)
      · exact .inl h
      · exact .inr ⟨x, .inl rfl, h⟩
      · exact .inr ⟨i, .inr h1, h2⟩
    · rintro (h | ⟨i, h1 | h1, h2⟩)
      · exact .inl (.inl h)
      · exact .inl (.inr (by rw [← h1]; exact h2))
      · exact .inr ⟨i, h1, h2⟩
theorem mask_bit {d : Ch} {e : List Nat} {j b : Nat} : (d.mask e j).testBit b = true ↔ ∃ i ∈ e, ixI (d.fld j) ((d.wd i).getD j 0) = b := by
  unfold Ch.mask Ch.bitAt
  rw [or_bits (fun i => ixI (d.fld j) ((d.wd i).getD j 0)) e 0 b]
  simp
theorem masks_at {d : Ch} {e : List Nat} {j : Nat} (hj : j < d.sz.length) : (d.masks e).getD j 0 = d.mask e j := by
  unfold Ch.masks
  rw [List.getD_eq_getElem?_getD, List.getElem?_map, List.getElem?_range hj]
  rfl
theorem masks_len (d : Ch) (e : List Nat) : (d.masks e).length = d.sz.length := by unfold Ch.masks; rw [List.length_map, List.length_range]
theorem masks_nz {d : Ch} {e : List Nat} (ne : e ≠ []) : 0 ∉ d.masks e := fun h => by
  obtain ⟨j, _, hj⟩ := List.mem_map.mp h
  cases e with
  | nil => exact ne rfl
  | cons i l =>
    have : (d.mask (i :: l) j).testBit (ixI (d.fld j) ((d.wd i).getD j 0)) = true := mask_bit.mpr ⟨i, List.mem_cons_self, rfl⟩
    rw [hj, Nat.zero_testBit] at this
    cases this
theorem ixI_inj {xs : List Int} {u v : Int} (hu : u ∈ xs) (hv : v ∈ xs) (h : ixI xs u = ixI xs v) : u = v := by
  have h1 := (ixI_at hu).1
  rw [h, (ixI_at hv).1] at h1
  exact (Option.some.inj h1).symm
/-- right just if all families that show one word have a common state -/
theorem right_iff {d : Ch} (ok : d.Ok) (k : Nat) : (bareM (d.rowsM k) (k + 1)).isNone = true ↔ ∀ F, F ≠ [] → (∀ e ∈ F, e ∈ d.evs k) → Shw d F → Com F := by
  have hev := fun e he => evs_ev ok (k := k) e he
  rw [Option.isNone_iff_eq_none, bareM_rec, bareR_iff (N := d.sz.length) (n := k + 1) (d.rowsM k) fun r hr => by
    obtain ⟨e, he, rfl⟩ := List.mem_map.mp hr
    exact ⟨masks_len d e, masks_nz (hev e he).1.ne, (hev e he).2⟩]
  constructor
  · intro h F ne hF sw
    obtain ⟨x, hx⟩ := h (F.map fun e => (e, d.masks e)) (fun z => ne (List.map_eq_nil_iff.mp z)) (fun r hr => by
      obtain ⟨e, he, rfl⟩ := List.mem_map.mp hr
      exact List.mem_map.mpr ⟨e, hF e he, rfl⟩) (fun j hj => by
      obtain ⟨v, hv⟩ := sw j hj
      refine ⟨ixI (d.fld j) v, fun g hg => ?_⟩
      obtain ⟨e, he, rfl⟩ := List.mem_map.mp hg
      obtain ⟨i, hi, hw⟩ := hv e he
      rw [masks_at hj]
      exact mask_bit.mpr ⟨i, hi, by rw [hw]⟩)
    exact ⟨x, fun e he => hx _ (List.mem_map.mpr ⟨e, he, rfl⟩)⟩
  · intro h F ne hF hb
    have rep : ∀ r ∈ F, r.1 ∈ d.evs k ∧ r.2 = d.masks r.1 := fun r hr => by
      obtain ⟨e, he, rfl⟩ := List.mem_map.mp (hF r hr)
      exact ⟨he, rfl⟩
    obtain ⟨x, hx⟩ := h (F.map (·.1)) (fun z => ne (List.map_eq_nil_iff.mp z)) (fun e he => by
      obtain ⟨r, hr, rfl⟩ := List.mem_map.mp he
      exact (rep r hr).1) (fun j hj => by
      obtain ⟨b, hb⟩ := hb j hj
      have bit : ∀ r ∈ F, ∃ i ∈ r.1, i < d.m ∧ ixI (d.fld j) ((d.wd i).getD j 0) = b := fun r hr => by
        have := hb r hr
        rw [(rep r hr).2, masks_at hj] at this
        obtain ⟨i, hi, e⟩ := mask_bit.mp this
        exact ⟨i, hi, (hev _ (rep r hr).1).1.lt i hi, e⟩
      cases F with
      | nil => exact absurd rfl ne
      | cons r0 F' =>
        obtain ⟨i0, h0, h0m, e0⟩ := bit r0 List.mem_cons_self
        refine ⟨(d.wd i0).getD j 0, fun e he => ?_⟩
        obtain ⟨r, hr, rfl⟩ := List.mem_map.mp he
        obtain ⟨i, hi, him, e⟩ := bit r hr
        exact ⟨i, hi, ixI_inj (fld_mem him) (fld_mem h0m) (e.trans e0.symm)⟩)
    exact ⟨x, fun r hr => hx r.1 (List.mem_map.mpr ⟨r, hr, rfl⟩)⟩
/-! ### by cuts -/
theorem by_at {c : Ch} {cs : List (List Nat)} {j : Nat} (hj : j < cs.length) (i : Nat) : ((c.by cs).wd i).getD j 0 = if cs[j].contains i then 0 else 1 := by
  show (cs.map fun e => if e.contains i then (0 : Int) else 1).getD j 0 = _
  rw [List.getD_eq_getElem?_getD, List.getElem?_map, List.getElem?_eq_getElem hj]
  rfl
theorem parts_true {cut a b : List Nat} : partsM cut (a, b) = true ↔ ((∀ x ∈ a, x ∈ cut) ∧ ∀ x ∈ b, x ∉ cut) ∨ ((∀ x ∈ b, x ∈ cut) ∧ ∀ x ∈ a, x ∉ cut) := by
  unfold partsM
  rw [Bool.or_eq_true, Bool.and_eq_true, Bool.and_eq_true, List.all_eq_true, List.all_eq_true, Bool.not_eq_true', Bool.not_eq_true', List.any_eq_false, List.any_eq_false]
  simp only [List.contains_iff_mem]
/-- a family shows one word just if no cut parts two of it -/
theorem shw_by {c : Ch} {cs : List (List Nat)} {F : List (List Nat)} : Shw (c.by cs) F ↔ ∀ cut ∈ cs, ∀ a ∈ F, ∀ b ∈ F, partsM cut (a, b) = false := by
  have el : (c.by cs).sz.length = cs.length := by show (cs.map _).length = _; rw [List.length_map]
  constructor
  · intro h cut hc a ha b hb
    obtain ⟨j, hj, rfl⟩ := List.getElem_of_mem hc
    obtain ⟨v, hv⟩ := h j (by rw [el]; exact hj)
    cases q : partsM cs[j] (a, b) with
    | false => rfl
    | true =>
      exfalso
      obtain ⟨x, hx, ex⟩ := hv a ha
      obtain ⟨y, hy, ey⟩ := hv b hb
      rw [by_at hj] at ex ey
      rcases parts_true.mp q with ⟨h1, h2⟩ | ⟨h1, h2⟩
      · rw [if_pos (List.contains_iff_mem.mpr (h1 x hx))] at ex
        rw [if_neg fun z => h2 y hy (List.contains_iff_mem.mp z)] at ey
        rw [← ex] at ey
        cases ey
      · rw [if_neg fun z => h2 x hx (List.contains_iff_mem.mp z)] at ex
        rw [if_pos (List.contains_iff_mem.mpr (h1 y hy))] at ey
        rw [← ey] at ex
        cases ex
  · intro h j hj
    rw [el] at hj
    by_cases q : ∀ e ∈ F, ∃ i ∈ e, i ∈ cs[j]
    · refine ⟨0, fun e he => ?_⟩
      obtain ⟨i, h1, h2⟩ := q e he
      exact ⟨i, h1, by rw [by_at hj, if_pos (List.contains_iff_mem.mpr h2)]⟩
    · obtain ⟨b, hq⟩ := Classical.not_forall.mp q
      obtain ⟨hb, nb⟩ := Classical.not_imp.mp hq
      refine ⟨1, fun e he => ?_⟩
      refine Classical.byContradiction fun ne => ?_
      have h1 : partsM cs[j] (e, b) = true := parts_true.mpr (.inl ⟨fun x hx => ?_, fun x hx z => nb ⟨x, hx, z⟩⟩)
      · rw [h cs[j] (List.getElem_mem hj) e he b hb] at h1
        cases h1
      · refine Classical.byContradiction fun z => ne ⟨x, hx, ?_⟩
        rw [by_at hj, if_neg fun w => z (List.contains_iff_mem.mp w)]
/-- all pairs apart are parted -/
def Allp (es cs : List (List Nat)) : Prop := ∀ a ∈ es, ∀ b ∈ es, meetM a b = false → ∃ cut ∈ cs, partsM cut (a, b) = true
theorem parts_sym {cut a b : List Nat} : partsM cut (a, b) = partsM cut (b, a) := by
  unfold partsM
  rw [Bool.or_comm]
theorem meet_sym {a b : List Nat} : meetM a b = meetM b a := by
  have h : ∀ {a b}, meetM a b = true → meetM b a = true := fun h => by
    obtain ⟨y, h1, h2⟩ := meet_iff.mp h
    exact meet_iff.mpr ⟨y, h2, h1⟩
  cases q : meetM a b with
  | true => exact (h q).symm
  | false =>
    cases r : meetM b a with
    | false => rfl
    | true => rw [h r] at q; cases q
theorem apart_iff {es : List (List Nat)} {a b : List Nat} (ha : a ∈ es) (hb : b ∈ es) (hm : meetM a b = false) (ne : a ≠ b) : (a, b) ∈ apartM es ∨ (b, a) ∈ apartM es := by
  obtain ⟨i, hi, ea⟩ := List.getElem_of_mem ha
  obtain ⟨j, hj, eb⟩ := List.getElem_of_mem hb
  have mk : ∀ (i j : Nat) (hi : i < es.length) (hj : j < es.length) (a b : List Nat), es[i] = a → es[j] = b → meetM a b = false → i < j → (a, b) ∈ apartM es := fun i j hi hj a b ea eb hm lt => by
    unfold apartM
    refine List.mem_flatMap.mpr ⟨(a, i), List.mem_zipIdx_iff_getElem?.mpr (by rw [List.getElem?_eq_getElem hi, ea]), List.mem_map.mpr ⟨b, List.mem_filter.mpr ⟨List.mem_drop_iff_getElem.mpr ⟨j - (i + 1), by omega, ?_⟩, by show (!meetM a b) = true; rw [hm]; rfl⟩, rfl⟩⟩
    have : i + 1 + (j - (i + 1)) = j := by omega
    simp only [this]
    exact eb
  rcases Nat.lt_trichotomy i j with h | h | h
  · exact .inl (mk i j hi hj a b ea eb hm h)
  · subst h
    exact absurd (ea.symm.trans eb) ne
  · exact .inr (mk j i hj hi b a eb ea (by rw [meet_sym]; exact hm) h)
theorem cutl_iff {es cs : List (List Nat)} (hne : ∀ e ∈ es, e ≠ []) : cutlM es cs = true ↔ Allp es cs := by
  unfold cutlM
  rw [List.all_eq_true]
  constructor
  · intro h a ha b hb hm
    have ne : a ≠ b := fun z => by
      subst z
      cases a with
      | nil => exact hne _ ha rfl
      | cons y l =>
        rw [meet_iff.mpr ⟨y, List.mem_cons_self, List.mem_cons_self⟩] at hm
        cases hm
    rcases apart_iff ha hb hm ne with z | z
    · exact List.any_eq_true.mp (h _ z)
    · obtain ⟨cut, h1, h2⟩ := List.any_eq_true.mp (h _ z)
      exact ⟨cut, h1, by rw [parts_sym]; exact h2⟩
  · intro h p hp
    obtain ⟨h1, h2, h3⟩ := apart_mem hp
    exact List.any_eq_true.mpr (h p.1 h1 p.2 h2 h3)
/-- [10]: words by cuts are right just if the cuts are enough and bits exist -/
theorem by_right {c : Ch} (ok : c.Ok) {cs : List (List Nat)} (hl : cs.length ≤ 20) (k : Nat) : (bareM ((c.by cs).rowsM k) (k + 1)).isNone = ((mfamM (c.evs k) (k + 1)).isNone && cutlM (c.evs k) cs) := by
  have hev := fun e he => evs_ev ok (k := k) e he
  have h1 := right_iff (Ch.by_ok ok hl) k
  rw [Ch.by_evs] at h1
  have h2 := fine_iff ok k
  have h3 := cutl_iff (es := c.evs k) (cs := cs) fun e he => (hev e he).1.ne
  rw [Bool.eq_iff_iff, Bool.and_eq_true, h1, h2, h3]
  constructor
  · intro h
    refine ⟨fun F ne hF m => h F ne hF (shw_by.mpr fun cut hc a ha b hb => ?_), fun a ha b hb hm => ?_⟩
    · cases q : partsM cut (a, b) with
      | false => rfl
      | true =>
        exfalso
        obtain ⟨x, hx, hy⟩ := meet_iff.mp (m a ha b hb)
        rcases parts_true.mp q with ⟨p1, p2⟩ | ⟨p1, p2⟩
        · exact p2 x hy (p1 x hx)
        · exact p2 x hx (p1 x hy)
    · refine Classical.byContradiction fun nc => ?_
      have : Com [a, b] := h [a, b] (by simp) (fun e he => by
        simp only [List.mem_cons, List.not_mem_nil, or_false] at he
        rcases he with rfl | rfl
        · exact ha
        · exact hb) (shw_by.mpr fun cut hc u hu v hv => by
        have np : ∀ {u v}, (u = a ∨ u = b) → (v = a ∨ v = b) → partsM cut (u, v) = false := fun {u v} hu hv => by
          cases q : partsM cut (u, v) with
          | false => rfl
          | true =>
            exfalso
            have self : ∀ {e}, e ∈ c.evs k → partsM cut (e, e) = true → False := fun {e} he q => by
              have ne := (hev e he).1.ne
              cases e with
              | nil => exact ne rfl
              | cons y l =>
                rcases parts_true.mp q with ⟨p1, p2⟩ | ⟨p1, p2⟩
                · exact p2 y List.mem_cons_self (p1 y List.mem_cons_self)
                · exact p2 y List.mem_cons_self (p1 y List.mem_cons_self)
            rcases hu with rfl | rfl <;> rcases hv with rfl | rfl
            · exact self ha q
            · exact nc ⟨cut, hc, q⟩
            · exact nc ⟨cut, hc, by rw [parts_sym]; exact q⟩
            · exact self hb q
        simp only [List.mem_cons, List.not_mem_nil, or_false] at hu hv
        exact np hu hv)
      obtain ⟨x, hx⟩ := this
      rw [meet_iff.mpr ⟨x, hx a (by simp), hx b (by simp)⟩] at hm
      cases hm
  · rintro ⟨h4, h5⟩ F ne hF sw
    refine h4 F ne hF fun a ha b hb => ?_
    cases q : meetM a b with
    | true => rfl
    | false =>
      exfalso
      obtain ⟨cut, hc, hp⟩ := h5 a (hF a ha) b (hF b hb) q
      rw [shw_by.mp sw cut hc a ha b hb] at hp
      cases hp
/-! ### readers -/
theorem wordsF_mem : ∀ (n : Nat) (vals : List (List Int)) (w : List Int), vals.length = n → (w ∈ wordsF vals ↔ w.length = n ∧ ∀ j, j < n → w.getD j 0 ∈ vals.getD j [])
  | 0, vals, w, h => by
    rw [List.length_eq_zero_iff.mp h]
    show w ∈ [[]] ↔ _
    rw [List.mem_singleton]
    exact ⟨fun e => by rw [e]; exact ⟨rfl, fun j hj => absurd hj (Nat.not_lt_zero j)⟩, fun e => List.length_eq_zero_iff.mp e.1⟩
  | n + 1, vals, w, h => by
    obtain ⟨l, x, rfl⟩ : ∃ l x, vals = l ++ [x] := ⟨vals.dropLast, vals.getLast (fun z => by rw [z] at h; cases h), (List.dropLast_concat_getLast _).symm⟩
    have hl : l.length = n := by simpa using h
    have ih := fun w => wordsF_mem n l w hl
    rw [wordsF_snoc, List.mem_flatMap]
    have at1 : ∀ (w' : List Int) (v : Int) (j : Nat), w'.length = n → (w' ++ [v]).getD j 0 = if j < n then w'.getD j 0 else if j = n then v else 0 := fun w' v j hw => by
      rw [List.getD_eq_getElem?_getD, List.getD_eq_getElem?_getD, List.getElem?_append, hw]
      by_cases h1 : j < n
      · rw [if_pos h1, if_pos h1]
      · rw [if_neg h1, if_neg h1]
        by_cases h2 : j = n
        · rw [if_pos h2, h2]; simp
        · rw [if_neg h2, List.getElem?_eq_none (by simp; omega)]
          rfl
    have at2 : ∀ j, (l ++ [x]).getD j [] = if j < n then l.getD j [] else if j = n then x else [] := fun j => by
      rw [List.getD_eq_getElem?_getD, List.getD_eq_getElem?_getD, List.getElem?_append, hl]
      by_cases h1 : j < n
      · rw [if_pos h1, if_pos h1]
      · rw [if_neg h1, if_neg h1]
        by_cases h2 : j = n
        · rw [if_pos h2, h2]; simp
        · rw [if_neg h2, List.getElem?_eq_none (by simp; omega)]
          rfl
    constructor
    · rintro ⟨w', hw', h2⟩
      obtain ⟨v, hv, rfl⟩ := List.mem_map.mp h2
      obtain ⟨h3, h4⟩ := (ih w').mp hw'
      refine ⟨by rw [List.length_append, h3]; rfl, fun j hj => ?_⟩
      rw [at1 w' v j h3, at2 j]
      by_cases q : j < n
      · rw [if_pos q, if_pos q]; exact h4 j q
      · rw [if_neg q, if_neg q, if_pos (by omega), if_pos (by omega)]; exact hv
    · rintro ⟨h3, h4⟩
      obtain ⟨w', v, rfl⟩ : ∃ w' v, w = w' ++ [v] := ⟨w.dropLast, w.getLast (fun z => by rw [z] at h3; cases h3), (List.dropLast_concat_getLast _).symm⟩
      have hw : w'.length = n := by simpa using h3
      refine ⟨w', (ih w').mpr ⟨hw, fun j hj => ?_⟩, List.mem_map.mpr ⟨v, ?_, rfl⟩⟩
      · have := h4 j (by omega)
        rw [at1 w' v j hw, at2 j, if_pos hj, if_pos hj] at this
        exact this
      · have := h4 n (by omega)
        rw [at1 w' v n hw, at2 n] at this
        simpa using this
theorem words_mem {d : Ch} {e : List Nat} {w : List Int} : w ∈ d.words e ↔ w.length = d.sz.length ∧ ∀ j, j < d.sz.length → ∃ i ∈ e, (d.wd i).getD j 0 = w.getD j 0 := by
  have hv : (d.vals e).length = d.sz.length := by unfold Ch.vals; rw [List.length_map, List.length_range]
  unfold Ch.words
  rw [wordsF_mem d.sz.length (d.vals e) w hv]
  refine and_congr_right fun _ => forall_congr' fun j => ?_
  refine ⟨fun h hj => ?_, fun h hj => ?_⟩
  · have h2 := h hj
    unfold Ch.vals at h2
    rw [List.getD_eq_getElem?_getD, List.getD_eq_getElem?_getD, List.getElem?_map, List.getElem?_range hj] at h2
    have h3 := (setB_mem linI _ _).mp h2
    obtain ⟨i, hi, e1⟩ := List.mem_map.mp h3
    exact ⟨i, hi, by rw [e1, List.getD_eq_getElem?_getD]⟩
  · obtain ⟨i, hi, e1⟩ := h hj
    unfold Ch.vals
    rw [List.getD_eq_getElem?_getD (l := List.map _ _), List.getElem?_map, List.getElem?_range hj]
    show _ ∈ setI (d.col e j)
    exact (setB_mem linI _ _).mpr (List.mem_map.mpr ⟨i, hi, e1⟩)
/-- a reader is told just if all families that show one word have a common state -/
theorem reader_iff {d : Ch} (ok : d.Ok) (k : Nat) : (d.reader k).isSome = true ↔ ∀ F, F ≠ [] → (∀ e ∈ F, e ∈ d.evs k) → Shw d F → Com F := by
  have co := choices_ok d k
  have hR : (d.reader k).isSome = !((d.choices k).any fun kv => kv.2.isEmpty) := by
    unfold Ch.reader
    cases (d.choices k).any fun kv => kv.2.isEmpty <;> rfl
  have mem_lk : ∀ kv ∈ d.choices k, lkA (d.choices k) kv.1 = Option.some kv.2 := fun kv hkv => by
    have : ∀ l : Assoc, (l.map (·.1)).Nodup → kv ∈ l → lkA l kv.1 = Option.some kv.2 := fun l => by
      induction l with
      | nil => intro _ h; cases h
      | cons a l ih =>
        intro nd h
        rw [List.map_cons, List.nodup_cons] at nd
        rw [lkA_cons]
        rcases List.mem_cons.mp h with e | h
        · rw [← e, if_pos rfl]
        · rw [if_neg fun z => nd.1 (by rw [z]; exact List.mem_map.mpr ⟨kv, h, rfl⟩)]
          exact ih nd.2 h
    exact this _ co.nd hkv
  rw [hR, Bool.not_eq_true', List.any_eq_false]
  constructor
  · intro h F ne hF sw
    -- a word that all show
    let w : List Int := (List.range d.sz.length).map fun j => if hj : j < d.sz.length then Classical.choose (sw j hj) else 0
    have wl : w.length = d.sz.length := by show ((List.range _).map _).length = _; rw [List.length_map, List.length_range]
    have hw : ∀ e ∈ F, w ∈ d.words e := fun e he => words_mem.mpr ⟨wl, fun j hj => by
      have e1 : w.getD j 0 = Classical.choose (sw j hj) := by
        rw [List.getD_eq_getElem?_getD]
        show (((List.range d.sz.length).map _)[j]?).getD 0 = _
        rw [List.getElem?_map, List.getElem?_range hj]
        show (if hj : j < d.sz.length then _ else _) = _
        rw [dif_pos hj]
      rw [e1]
      exact Classical.choose_spec (sw j hj) e he⟩
    cases F with
    | nil => exact absurd rfl ne
    | cons e0 F' =>
      have hk : w ∈ (d.choices k).map (·.1) := (co.key w).mpr ⟨(e0, w), mem_seen.mpr ⟨hF e0 List.mem_cons_self, hw e0 List.mem_cons_self⟩, rfl⟩
      obtain ⟨kv, hkv, e1⟩ := List.mem_map.mp hk
      have hne := h kv hkv
      obtain ⟨w1, ns⟩ := kv
      dsimp only at e1
      subst e1
      cases ns with
      | nil => exact absurd rfl hne
      | cons x l =>
        have := (co.val w (x :: l) (mem_lk _ hkv) x).mp List.mem_cons_self
        exact ⟨x, fun e he => this (e, w) (mem_seen.mpr ⟨hF e he, hw e he⟩) rfl⟩
  · intro h kv hkv he
    have hk : kv.1 ∈ (d.choices k).map (·.1) := List.mem_map.mpr ⟨kv, hkv, rfl⟩
    obtain ⟨p0, hp0, e0⟩ := (co.key kv.1).mp hk
    obtain ⟨m1, m2⟩ := mem_seen.mp hp0
    rw [e0] at m2
    let F := (d.evs k).filter fun e => decide (kv.1 ∈ d.words e)
    have inF : ∀ e, e ∈ F ↔ e ∈ d.evs k ∧ kv.1 ∈ d.words e := fun e => by
      show e ∈ List.filter _ _ ↔ _
      rw [List.mem_filter, decide_eq_true_eq]
    have h0 : p0.1 ∈ F := (inF _).mpr ⟨m1, m2⟩
    obtain ⟨x, hx⟩ := h F (fun z => by rw [z] at h0; cases h0) (fun e he => ((inF e).mp he).1) (fun j hj => ⟨kv.1.getD j 0, fun e he => (words_mem.mp ((inF e).mp he).2).2 j hj⟩)
    have := (co.val kv.1 kv.2 (mem_lk kv hkv) x).mpr fun p hp e => by
      obtain ⟨n1, n2⟩ := mem_seen.mp hp
      rw [e] at n2
      exact hx p.1 ((inF _).mpr ⟨n1, n2⟩)
    rw [List.isEmpty_iff.mp he] at this
    cases this
theorem reader_right {d : Ch} (ok : d.Ok) (k : Nat) : (d.reader k).isSome = (bareM (d.rowsM k) (k + 1)).isNone := by
  rw [Bool.eq_iff_iff, reader_iff ok, right_iff ok]
/-- what is told is right -/
theorem reader_ok {d : Ch} (ok : d.Ok) (bt : d.Bit) (h2 : ∀ z ∈ d.sz, z = 2) {k : Nat} {r : List (List Int × Nat)} (h : d.reader k = Option.some r) : RdOk d k r := by
  have co := choices_ok d k
  have hev := fun e he => evs_ev ok (k := k) e he
  unfold Ch.reader at h
  split at h
  · cases h
  rename_i hne
  have hne : ((d.choices k).any fun kv => kv.2.isEmpty) = false := (Bool.not_eq_true _).mp hne
  have er := Option.some.inj h
  have sp := sortW_perm ((d.choices k).map (·.1))
  have key : ∀ w ∈ (d.choices k).map (·.1), ∃ i ns, lkA (d.choices k) w = Option.some (i :: ns) := fun w hw => by
    cases q : lkA (d.choices k) w with
    | none => exact absurd hw (lkA_none.mp q)
    | some ns =>
      cases ns with
      | cons i is => exact ⟨i, is, rfl⟩
      | nil =>
        exfalso
        unfold lkA at q
        obtain ⟨kv, h1, h2⟩ := Option.map_eq_some_iff.mp q
        have := List.any_eq_false.mp hne kv (List.mem_of_find?_eq_some h1)
        rw [h2] at this
        exact this rfl
  have efst : r.map (·.1) = sortW ((d.choices k).map (·.1)) := by
    rw [← er, List.map_map]
    show List.map (fun w => w) _ = _
    rw [List.map_id']
  refine ⟨fun p hp => ?_, by rw [efst]; exact sortW_asc co.nd, fun e he w hw => ?_, ?_⟩
  · rw [← er] at hp
    obtain ⟨w, hw, rfl⟩ := List.mem_map.mp hp
    have hk := sp.mem_iff.mp hw
    obtain ⟨p0, hp0, e0⟩ := (co.key w).mp hk
    obtain ⟨m1, m2⟩ := mem_seen.mp hp0
    rw [e0] at m2
    obtain ⟨wl, wv⟩ := words_mem.mp m2
    obtain ⟨i, ns, hl⟩ := key w hk
    refine ⟨wl, ?_, ?_⟩
    · rw [List.all_eq_true]
      intro q hq
      obtain ⟨q1, q2⟩ := q
      obtain ⟨hz1, hz2⟩ := List.of_mem_zip hq
      have hz : q2 = 2 := h2 q2 hz2
      obtain ⟨j, hj, e1⟩ := List.getElem_of_mem hz1
      obtain ⟨i', _, e2⟩ := wv j (by rw [← wl]; exact hj)
      have e3 : w.getD j 0 = q1 := by rw [List.getD_eq_getElem?_getD, List.getElem?_eq_getElem hj, e1]; rfl
      rw [e3] at e2
      have := getD_bit (j := j) (bt.1 i')
      rw [e2] at this
      rw [hz]
      rcases this with z | z
      · rw [z]; rfl
      · rw [z]; rfl
    · show ((lkA (d.choices k) w).getD []).headD 0 < d.m
      rw [hl]
      have := (co.val w (i :: ns) hl i).mp List.mem_cons_self p0 hp0 e0
      exact (hev p0.1 m1).1.lt i this
  · have hk : w ∈ (d.choices k).map (·.1) := (co.key w).mpr ⟨(e, w), mem_seen.mpr ⟨he, hw⟩, rfl⟩
    obtain ⟨i, ns, hl⟩ := key w hk
    refine ⟨i, ?_, (co.val w (i :: ns) hl i).mp List.mem_cons_self (e, w) (mem_seen.mpr ⟨he, hw⟩) rfl⟩
    rw [← er]
    unfold lkR
    rw [List.find?_map]
    have hw2 : w ∈ sortW ((d.choices k).map (·.1)) := sp.mem_iff.mpr hk
    cases q : (sortW ((d.choices k).map (·.1))).find? ((fun p : List Int × Nat => decide (p.1 = w)) ∘ fun w => (w, ((lkA (d.choices k) w).getD []).headD 0)) with
    | none =>
      have := List.find?_eq_none.mp q w hw2
      simp at this
    | some w' =>
      have h0 := List.find?_some q
      have h3 : w' = w := of_decide_eq_true h0
      show Option.some (((lkA (d.choices k) w').getD []).headD 0) = _
      rw [h3, hl]
      rfl
  · rw [← er, List.length_map, sp.length_eq, List.length_map]
    exact choices_len ok bt k
end J
/-! The plain law: the fewest cuts; forests. -/
namespace J
open PySem PySem.Spec L2
theorem cutsM_sound {es : List (List Nat)} : ∀ (n : Nat) (ps : List (List Nat × List Nat)) (r : List (List Nat)), cutsM es n ps = Option.some r → (∀ p ∈ ps, ∃ e ∈ r, partsM e p = true) ∧ (∀ e ∈ r, ∃ p ∈ ps, partsM e p = true) ∧ r.Nodup
  | _, [], r, h => by
    rw [cutsM] at h
    cases h
    exact ⟨(fun p hp => nomatch hp), (fun e he => nomatch he), List.nodup_nil⟩
  | 0, _ :: _, r, h => by rw [cutsM] at h; cases h
  | n + 1, p :: ps, r, h => by
    rw [cutsM] at h
    obtain ⟨e, he, h2⟩ := List.exists_of_findSome?_eq_some h
    split at h2
    · rename_i hp
      obtain ⟨r', h3, rfl⟩ := Option.map_eq_some_iff.mp h2
      obtain ⟨s1, s2, s3⟩ := cutsM_sound n _ r' h3
      refine ⟨fun q hq => ?_, fun x hx => ?_, List.nodup_cons.mpr ⟨fun z => ?_, s3⟩⟩
      · by_cases w : partsM e q = true
        · exact ⟨e, List.mem_cons_self, w⟩
        · obtain ⟨e', h4, h5⟩ := s1 q (List.mem_filter.mpr ⟨hq, by rw [(Bool.not_eq_true _).mp w]; rfl⟩)
          exact ⟨e', List.mem_cons_of_mem _ h4, h5⟩
      · rcases List.mem_cons.mp hx with z | z
        · rw [z]
          exact ⟨p, List.mem_cons_self, hp⟩
        · obtain ⟨q, h4, h5⟩ := s2 x z
          exact ⟨q, (List.mem_filter.mp h4).1, h5⟩
      · obtain ⟨q, h4, h5⟩ := s2 e z
        have := (List.mem_filter.mp h4).2
        rw [h5] at this
        cases this
    · cases h2
theorem least_at {g : Nat → Option (List (List Nat))} : ∀ N, g N ≠ none → ∃ n l, n ≤ N ∧ g n = Option.some l ∧ ∀ j, j < n → g j = none
  | 0, h => by
    cases q : g 0 with
    | none => exact absurd q h
    | some l => exact ⟨0, l, Nat.le_refl _, q, fun j hj => absurd hj (Nat.not_lt_zero j)⟩
  | N + 1, h => by
    by_cases q : ∃ j, j ≤ N ∧ g j ≠ none
    · obtain ⟨j, hj, h2⟩ := q
      obtain ⟨n, l, h3, h4, h5⟩ := least_at j h2
      exact ⟨n, l, by omega, h4, h5⟩
    · cases q2 : g (N + 1) with
      | none => exact absurd q2 h
      | some l => exact ⟨N + 1, l, Nat.le_refl _, q2, fun j hj => Classical.byContradiction fun z => q ⟨j, by omega, z⟩⟩
  termination_by N => N
theorem sortC_perm (l : List (List Nat)) : (sortC l).Perm l := List.mergeSort_perm _ _
theorem sortC_asc {l : List (List Nat)} (nd : l.Nodup) : (sortC l).Pairwise fun a b => ltL a b = true := by
  have h1 : (sortC l).Pairwise fun a b => (!ltL b a) = true := List.pairwise_mergeSort (le := fun a b => !ltL b a) (fun a b c h1 h2 => by
    simp only [Bool.not_eq_true'] at h1 h2 ⊢
    cases q : ltL c a with
    | false => rfl
    | true =>
      exfalso
      -- c < a, not b < a, not c < b
      cases q2 : ltL a b with
      | true =>
        rw [linL.tr _ _ _ q q2] at h2
        cases h2
      | false =>
        have e : a = b := linL.tri a b q2 h1
        subst e
        rw [q] at h2
        cases h2) (fun a b => by
    cases q : ltL b a with
    | false => rfl
    | true => rw [linL.asy _ _ q]; rfl) l
  have h2 : (sortC l).Nodup := (sortC_perm l).nodup_iff.mpr nd
  refine (h1.and h2).imp fun {a b} ⟨p, q⟩ => ?_
  cases r : ltL a b with
  | true => rfl
  | false => exact absurd (linL.tri a b r (by simpa using p)) q
theorem cutlM_iff {es cs : List (List Nat)} : cutlM es cs = true ↔ ∀ p ∈ apartM es, ∃ e ∈ cs, partsM e p = true := by
  unfold cutlM
  rw [List.all_eq_true]
  exact ⟨fun h p hp => List.any_eq_true.mp (h p hp), fun h p hp => List.any_eq_true.mpr (h p hp)⟩
/-- what few_cuts tells -/
structure FewOk (c : Ch) (k : Nat) (l : List (List Nat)) : Prop where
  cuts : CutsOk c.m l
  few : l.length ≤ 16
  enough : cutlM (c.evs k) l = true
  least : ∀ S : List (List Nat), (∀ e ∈ S, CutOk c.m e) → cutlM (c.evs k) S = true → l.length ≤ S.length
  nil : l = [] ↔ apartM (c.evs k) = []
theorem few_ok (nm : Nat → Str) {c : Ch} (ok : c.Ok) (k : Nat) (h : (mfamM (c.evs k) (k + 1)).isNone = true) : ∃ l, c.few nm k = Option.some l ∧ FewOk c k l := by
  obtain ⟨es, hes⟩ : ∃ es, es = cutsN (c.m - 1) := ⟨_, rfl⟩
  obtain ⟨hs, hhs⟩ : ∃ hs, hs = hardM nm (apartM (c.evs k)) := ⟨_, rfl⟩
  have h16 := all_parted nm ok k
  rw [← hes, ← hhs] at h16
  obtain ⟨n, l, hn, hl, hmin⟩ := least_at (g := fun n => cutsM es n hs) 16 h16
  have el : leastM es hs = l := by
    unfold leastM
    rw [findSome_take (l := List.range 17) (g := fun n => cutsM es n hs) (i := n) (x := n) (b := l) (List.getElem?_range (by omega)) (fun y hy => hmin y (by
      obtain ⟨j, h1, h2⟩ := List.mem_take_iff_getElem.mp hy
      rw [List.getElem_range] at h2
      omega)) hl]
    rfl
  have hm1 := ok.m1
  have hm5 := ok.m5
  have em : c.m - 1 + 1 = c.m := by omega
  have cok : ∀ e ∈ es, CutOk c.m e := fun e he => by
    have := cutsN_ok (c.m - 1) e (by rw [← hes]; exact he)
    rw [em] at this
    exact this
  have cmem : ∀ e, CutOk c.m e → e ∈ es := fun e he => by
    rw [hes]
    exact cutsN_mem (c.m - 1) e (by rw [em]; exact he)
  obtain ⟨l1, l2⟩ := cutsM_len hl
  obtain ⟨s1, s2, s3⟩ := cutsM_sound n hs l hl
  have sp := sortC_perm l
  have hp := hard_perm nm (apartM (c.evs k))
  rw [← hhs] at hp
  refine ⟨sortC l, ?_, ⟨fun e he => cok e (l2 e (sp.mem_iff.mp he)), sortC_asc s3⟩, by rw [sp.length_eq]; omega, cutlM_iff.mpr fun p hp' => ?_, fun S hS hc => ?_, ?_⟩
  · unfold Ch.few
    rw [if_pos h, ← hes, ← hhs, el]
  · obtain ⟨e, h1, h2⟩ := s1 p (hp.mem_iff.mpr hp')
    exact ⟨e, sp.mem_iff.mpr h1, h2⟩
  · rw [sp.length_eq]
    refine Nat.le_trans l1 (Classical.byContradiction fun z => ?_)
    have := cutsM_some (es := es) (n := S.length) (ps := hs) S (Nat.le_refl _) (fun e he => cmem e (hS e he)) fun p hp' => cutlM_iff.mp hc p (hp.mem_iff.mp hp')
    exact this (hmin S.length (by omega))
  · constructor
    · intro z
      have e : l = [] := by
        have := sp.length_eq
        rw [z] at this
        exact List.length_eq_zero_iff.mp this.symm
      have : ∀ p, p ∉ apartM (c.evs k) := fun p hp' => by
        obtain ⟨e', h1, _⟩ := s1 p (hp.mem_iff.mpr hp')
        rw [e] at h1
        cases h1
      exact List.eq_nil_iff_forall_not_mem.mpr this
    · intro z
      have e : hs = [] := by
        rw [z] at hp
        exact List.length_eq_zero_iff.mp hp.length_eq
      rw [e] at hl
      have : cutsM es n [] = Option.some [] := by cases n <;> rw [cutsM]
      rw [this] at hl
      cases hl
      unfold sortC
      exact List.mergeSort_nil
/-! ### forests -/
def chOf (m : Nat) (ti : List (Nat × Nat)) : Ch := ⟨m, [], fun _ => [], ti⟩
theorem evs_of (c : Ch) (k : Nat) : c.evs k = (chOf c.m c.ti).evs k := by
  have hr : ∀ k, c.rows k = (chOf c.m c.ti).rows k := fun k => by
    induction k with
    | zero => rfl
    | succ k ih =>
      show (c.rows k).flatMap _ = ((chOf c.m c.ti).rows k).flatMap _
      rw [ih]
      rfl
  have hw : ∀ k, c.walks k = (chOf c.m c.ti).walks k := fun k => by
    induction k with
    | zero => rfl
    | succ k ih =>
      show c.walks k ++ c.rows (k + 1) = (chOf c.m c.ti).walks k ++ (chOf c.m c.ti).rows (k + 1)
      rw [ih, hr]
  unfold Ch.evs
  rw [hw]
def forestOk (m k : Nat) : Bool := (subs (pairsN m m)).all fun ti => !(chOf m ti).forest || (mfamM ((chOf m ti).evs k) (k + 1)).isNone
theorem filter_subs {α : Type} (p : α → Bool) : ∀ l : List α, l.filter p ∈ subs l
  | [] => by simp [subs]
  | x :: xs => by
    show _ ∈ subs xs ++ (subs xs).map (x :: ·)
    rw [List.filter_cons]
    split
    · exact List.mem_append_right _ (List.mem_map.mpr ⟨_, filter_subs p xs, rfl⟩)
    · exact List.mem_append_left _ (filter_subs p xs)
end J
/-! Forests: all charts of up to five states. -/
namespace J
theorem forest_1 : ∀ k, k ≤ 2 → forestOk 1 k = true := by decide +kernel
theorem forest_2 : ∀ k, k ≤ 2 → forestOk 2 k = true := by decide +kernel
theorem forest_3 : ∀ k, k ≤ 2 → forestOk 3 k = true := by decide +kernel
theorem forest_4 : ∀ k, k ≤ 2 → forestOk 4 k = true := by decide +kernel
/-- one set of moves of five states -/
def f5 (k : Nat) (ti : List (Nat × Nat)) : Bool := !(chOf 5 ti).forest || (mfamM ((chOf 5 ti).evs k) (k + 1)).isNone
theorem all_cut {α : Type} {f : α → Bool} (n : Nat) {l : List α} (h1 : (l.take n).all f = true) (h2 : (l.drop n).all f = true) : l.all f = true := by
  rw [← List.take_append_drop n l, List.all_append, h1, h2]
  rfl
theorem f5_0_0 : ((subs (pairsN 5 5)).take 128).all (f5 0) = true := by decide +kernel
theorem f5_0_1 : (((subs (pairsN 5 5)).drop 128).take 128).all (f5 0) = true := by decide +kernel
theorem f5_0_2 : (((subs (pairsN 5 5)).drop 256).take 128).all (f5 0) = true := by decide +kernel
theorem f5_0_3 : (((subs (pairsN 5 5)).drop 384).take 128).all (f5 0) = true := by decide +kernel
theorem f5_0_4 : (((subs (pairsN 5 5)).drop 512).take 128).all (f5 0) = true := by decide +kernel
theorem f5_0_5 : (((subs (pairsN 5 5)).drop 640).take 128).all (f5 0) = true := by decide +kernel
theorem f5_0_6 : (((subs (pairsN 5 5)).drop 768).take 128).all (f5 0) = true := by decide +kernel
theorem f5_0_7 : ((subs (pairsN 5 5)).drop 896).all (f5 0) = true := by decide +kernel
theorem g5_0_7 : ((subs (pairsN 5 5)).drop 896).all (f5 0) = true := f5_0_7
theorem g5_0_6 : ((subs (pairsN 5 5)).drop 768).all (f5 0) = true := all_cut 128 f5_0_6 (by rw [List.drop_drop]; exact g5_0_7)
theorem g5_0_5 : ((subs (pairsN 5 5)).drop 640).all (f5 0) = true := all_cut 128 f5_0_5 (by rw [List.drop_drop]; exact g5_0_6)
theorem g5_0_4 : ((subs (pairsN 5 5)).drop 512).all (f5 0) = true := all_cut 128 f5_0_4 (by rw [List.drop_drop]; exact g5_0_5)
theorem g5_0_3 : ((subs (pairsN 5 5)).drop 384).all (f5 0) = true := all_cut 128 f5_0_3 (by rw [List.drop_drop]; exact g5_0_4)
theorem g5_0_2 : ((subs (pairsN 5 5)).drop 256).all (f5 0) = true := all_cut 128 f5_0_2 (by rw [List.drop_drop]; exact g5_0_3)
theorem g5_0_1 : ((subs (pairsN 5 5)).drop 128).all (f5 0) = true := all_cut 128 f5_0_1 (by rw [List.drop_drop]; exact g5_0_2)
theorem forest_50 : forestOk 5 0 = true := all_cut (f := f5 0) 128 f5_0_0 g5_0_1
theorem f5_1_0 : ((subs (pairsN 5 5)).take 128).all (f5 1) = true := by decide +kernel
theorem f5_1_1 : (((subs (pairsN 5 5)).drop 128).take 128).all (f5 1) = true := by decide +kernel
theorem f5_1_2 : (((subs (pairsN 5 5)).drop 256).take 128).all (f5 1) = true := by decide +kernel
theorem f5_1_3 : (((subs (pairsN 5 5)).drop 384).take 128).all (f5 1) = true := by decide +kernel
theorem f5_1_4 : (((subs (pairsN 5 5)).drop 512).take 128).all (f5 1) = true := by decide +kernel
theorem f5_1_5 : (((subs (pairsN 5 5)).drop 640).take 128).all (f5 1) = true := by decide +kernel
theorem f5_1_6 : (((subs (pairsN 5 5)).drop 768).take 128).all (f5 1) = true := by decide +kernel
theorem f5_1_7 : ((subs (pairsN 5 5)).drop 896).all (f5 1) = true := by decide +kernel
theorem g5_1_7 : ((subs (pairsN 5 5)).drop 896).all (f5 1) = true := f5_1_7
theorem g5_1_6 : ((subs (pairsN 5 5)).drop 768).all (f5 1) = true := all_cut 128 f5_1_6 (by rw [List.drop_drop]; exact g5_1_7)
theorem g5_1_5 : ((subs (pairsN 5 5)).drop 640).all (f5 1) = true := all_cut 128 f5_1_5 (by rw [List.drop_drop]; exact g5_1_6)
theorem g5_1_4 : ((subs (pairsN 5 5)).drop 512).all (f5 1) = true := all_cut 128 f5_1_4 (by rw [List.drop_drop]; exact g5_1_5)
theorem g5_1_3 : ((subs (pairsN 5 5)).drop 384).all (f5 1) = true := all_cut 128 f5_1_3 (by rw [List.drop_drop]; exact g5_1_4)
theorem g5_1_2 : ((subs (pairsN 5 5)).drop 256).all (f5 1) = true := all_cut 128 f5_1_2 (by rw [List.drop_drop]; exact g5_1_3)
theorem g5_1_1 : ((subs (pairsN 5 5)).drop 128).all (f5 1) = true := all_cut 128 f5_1_1 (by rw [List.drop_drop]; exact g5_1_2)
theorem forest_51 : forestOk 5 1 = true := all_cut (f := f5 1) 128 f5_1_0 g5_1_1
theorem f5_2_0 : ((subs (pairsN 5 5)).take 128).all (f5 2) = true := by decide +kernel
theorem f5_2_1 : (((subs (pairsN 5 5)).drop 128).take 128).all (f5 2) = true := by decide +kernel
theorem f5_2_2 : (((subs (pairsN 5 5)).drop 256).take 128).all (f5 2) = true := by decide +kernel
theorem f5_2_3 : (((subs (pairsN 5 5)).drop 384).take 128).all (f5 2) = true := by decide +kernel
theorem f5_2_4 : (((subs (pairsN 5 5)).drop 512).take 128).all (f5 2) = true := by decide +kernel
theorem f5_2_5 : (((subs (pairsN 5 5)).drop 640).take 128).all (f5 2) = true := by decide +kernel
theorem f5_2_6 : (((subs (pairsN 5 5)).drop 768).take 128).all (f5 2) = true := by decide +kernel
theorem f5_2_7 : ((subs (pairsN 5 5)).drop 896).all (f5 2) = true := by decide +kernel
theorem g5_2_7 : ((subs (pairsN 5 5)).drop 896).all (f5 2) = true := f5_2_7
theorem g5_2_6 : ((subs (pairsN 5 5)).drop 768).all (f5 2) = true := all_cut 128 f5_2_6 (by rw [List.drop_drop]; exact g5_2_7)
theorem g5_2_5 : ((subs (pairsN 5 5)).drop 640).all (f5 2) = true := all_cut 128 f5_2_5 (by rw [List.drop_drop]; exact g5_2_6)
theorem g5_2_4 : ((subs (pairsN 5 5)).drop 512).all (f5 2) = true := all_cut 128 f5_2_4 (by rw [List.drop_drop]; exact g5_2_5)
theorem g5_2_3 : ((subs (pairsN 5 5)).drop 384).all (f5 2) = true := all_cut 128 f5_2_3 (by rw [List.drop_drop]; exact g5_2_4)
theorem g5_2_2 : ((subs (pairsN 5 5)).drop 256).all (f5 2) = true := all_cut 128 f5_2_2 (by rw [List.drop_drop]; exact g5_2_3)
theorem g5_2_1 : ((subs (pairsN 5 5)).drop 128).all (f5 2) = true := all_cut 128 f5_2_1 (by rw [List.drop_drop]; exact g5_2_2)
theorem forest_52 : forestOk 5 2 = true := all_cut (f := f5 2) 128 f5_2_0 g5_2_1
/-- without moves that lead round bits exist -/
theorem forest_fine {c : Ch} (ok : c.Ok) (ht : c.ti ∈ subs (pairsN c.m c.m)) {k : Nat} (hk : k ≤ 2) (h : c.forest = true) : (mfamM (c.evs k) (k + 1)).isNone = true := by
  have all : ∀ m, 1 ≤ m → m ≤ 5 → ∀ k, k ≤ 2 → forestOk m k = true := fun m h1 h5 k hk => by
    match m, h1, h5 with
    | 1, _, _ => exact forest_1 k hk
    | 2, _, _ => exact forest_2 k hk
    | 3, _, _ => exact forest_3 k hk
    | 4, _, _ => exact forest_4 k hk
    | 5, _, _ =>
      match k, hk with
      | 0, _ => exact forest_50
      | 1, _ => exact forest_51
      | 2, _ => exact forest_52
  have h1 := List.all_eq_true.mp (all c.m ok.m1 ok.m5 k hk) c.ti ht
  rw [evs_of]
  have hf : (chOf c.m c.ti).forest = true := h
  rw [hf] at h1
  simpa using h1
end J
/-! _law_case_right. -/
namespace J
open PySem PySem.Spec L2
theorem lnd_nil {M : MV} : Lnd M [] := fun B H v R h => ⟨fun a ha => (nomatch ha), fun P hP => (nomatch hP), fun B' H' s k _ => M.mono s (fun a ha => k a ha (fun z => nomatch z)) h⟩
section
variable {X : Cx} {δ δ1 δ2 : DSt} {a b : Expr} {pos p2 : Pos}
theorem je_isnotB {p q : Bool} (ha : JE X a δ δ1 (aB p)) (hb : JE X b δ1 δ2 (aB q)) : JE X (.Compare a [.IsNot] [b] pos) δ δ2 (aB (p != q)) :=
  je_cmp op_isnot_bl (fun B H x y Q _ h1 h2 k => ⟨p, q, Dd.bl_eq h1, Dd.bl_eq h2, by
    have e : (!decide (p = q)) = (p != q) := by cases p <;> cases q <;> rfl
    rw [e]
    exact k _ B H (.refl B H) (.bl _)⟩) ha hb
theorem jt_isnotB {p q : Bool} (ha : JE X a δ δ1 (aB p)) (hb : JE X b δ1 δ2 (aB q)) : JT X (.Compare a [.IsNot] [b] pos) δ δ2 (p != q) :=
  jt_cmp op_isnot_bl (fun B H x y Q _ h1 h2 k => ⟨p, q, Dd.bl_eq h1, Dd.bl_eq h2, by
    have e : (!decide (p = q)) = (p != q) := by cases p <;> cases q <;> rfl
    rw [e]
    exact k _ B H (.refl B H) (.bl _)⟩) ha hb
theorem jt_neD {d e : PyData} (hu : X.A.units + 64 < cLine) (ha : JE X a δ δ1 (aD d)) (hb : JE X b δ1 δ2 (aD e)) (sd : SeqAt.shaped d = true) (se : SeqAt.shaped e = true) : JT X (.Compare a [.NotEq] [b] pos) δ δ2 (!PyData.eqv d e) :=
  jt_cmp (op_neD hu) (fun B H x y Q s h1 h2 k => ⟨d, e, Dd.dp s _ _ h1, Dd.dp s _ _ h2, sd, se, k _ B H (.refl B H) (.bl _)⟩) ha hb
end
section
variable {nm : Nat → Str}
theorem shp_Ps (H : NamX nm) (ps : List (List Nat × List Nat)) : SeqAt.shaped (.list (ps.map (dPr nm))) = true := by
  have d : ∀ e : List Nat, (eE nm e).depth ≤ 2 := fun e => by
    have : PyData.depthAll (e.map (eN nm)) ≤ 1 := by
      induction e with
      | nil => simp [PyData.depthAll]
      | cons a e ih =>
        simp only [List.map_cons, PyData.depthAll, PyData.depth]
        omega
    simp only [PyData.depth]
    omega
  have lay : ∀ ps : List (List Nat × List Nat), PyData.canLayAll0 (ps.map (dPr nm)) = true := fun ps => by
    induction ps with
    | nil => rfl
    | cons p ps ih =>
      have h := shp_Pr H p
      unfold SeqAt.shaped at h
      rw [Bool.and_eq_true] at h
      show ((dPr nm p).canLay0 && PyData.canLayAll0 (ps.map (dPr nm))) = true
      rw [ih, h.1]
      rfl
  have dep : ∀ ps : List (List Nat × List Nat), PyData.depthAll (ps.map (dPr nm)) ≤ 4 := fun ps => by
    induction ps with
    | nil => simp [PyData.depthAll]
    | cons p ps ih =>
      have d1 := d p.1
      have d2 := d p.2
      simp only [List.map_cons, PyData.depthAll, PyData.depth] at d1 d2 ⊢
      omega
  unfold SeqAt.shaped
  rw [show (PyData.list (ps.map (dPr nm))).canLay0 = true from lay ps, Bool.true_and, decide_eq_true_eq]
  have := dep ps
  simp only [PyData.depth]
  omega
theorem eqv_Ps (ps : List (List Nat × List Nat)) : PyData.eqv (.list (ps.map (dPr nm))) (.list []) = ps.isEmpty := by
  cases ps <;> simp [PyData.eqv, PyData.eqvAll]
end
section
variable {P : Program} {w : World} {K : PySem.W.Frag} {mg : Str → Option Value} {base : Heap} {nm : Nat → Str} {f : Addr} {fd : FuncData} {k : Nat}
/-- what _law_case_right calls -/
structure CaseC (P : Program) (w : World) (K : PySem.W.Frag) (mg : Str → Option Value) (base : Heap) (nm : Nat → Str) (k : Nat) (C : Value) (P0 : Addr) : Prop where
  hasb : Cal P w K mg base k "has_bits" (R_hasb nm)
  fewest : CalM CX0 P w K mg base k "fewest_cuts" C (R_fewest nm P0)
  told : CalM CX0 P w K mg base k "_law_told" C (R_told nm P0)
  mfam : Cal P w K mg base k "meeting_family" (R_mfam nm)
  forest : Cal P w K mg base k "is_forest" (R_forest nm)
  bits : Cal P w K mg base k "bits_by" (R_bits nm)
  cutl : Cal P w K mg base k "is_cut_list" (R_iscutl nm)
  right : Cal P w K mg base k "is_right" (R_isright nm)
  read : CalM CX0 P w K mg base k "_law_read" C (R_read nm)
  topart : Cal P w K mg base k "to_part" (R_topart nm)
  cuts : CalM CX0 P w K mg base k "_law_cuts" C (R_cuts nm)
abbrev s_case : Stmt := topS 64
abbrev N_case : List Str := ["_law_tin", "_law_web_here", "_law_far", "_law_fine", "_law_few_so", "_law_told_here", "_law_later", "_law_some", "_law_cuts_so", "_law_due"]
theorem c_case : FnScope N_case ["_law_tin", "_law_web_here", "_law_far"] (defScope s_case) := ⟨rfl, rfl, rfl, by decide +kernel, rfl, by decide +kernel, by decide +kernel⟩
def R_case (nm : Nat → Str) (P0 : Addr) : RlM := fun M M' As Z => ∃ (a : Addr) (T : List Addr) (t : Tin) (c : Ch) (k : Nat), P0 ∈ T ∧ c.Ok ∧ c.ti.length ≤ 20 ∧ c.ti ∈ subs (pairsN c.m c.m) ∧ k ≤ 2 ∧ t.Ok 17 ∧ M = mTin a T t ∧ M' = mTin a T (drawnM c.m t).2 ∧ As = [aD (dCh nm c), aI (k : Int)] ∧ Z = some (aB true)
theorem by_sz (c : Ch) (cs : List (List Nat)) : (c.by cs).sz.length = cs.length ∧ ∀ z ∈ (c.by cs).sz, z = 2 := ⟨by show (cs.map _).length = _; rw [List.length_map], fun z hz => by
  obtain ⟨_, _, e⟩ := List.mem_map.mp hz
  exact e.symm⟩
theorem f_case {C : Value} {P0 : Addr} (H : NamX nm) (F : Fun K "_law_case_right" "_law_case_right" s_case f fd) (L : CaseC P w K mg base nm k C P0) (m1 : mg "len" = none) : FnOk P w K mg base CX0 (k + 1) f fd ["_law_tin", "_law_web_here", "_law_far"] (spM C (R_case nm P0)) := by
  refine fn_jM F c_case (fun M M' As Z ⟨a, T, t, c, k, _, _, _, _, _, _, e1, e2, e3, e4⟩ => ⟨by rw [e3]; rfl, by rw [e4]; exact (fun z => nomatch z), by rw [e2, e1]; exact mTin_prec⟩) fun cdv A outer s0 H0 E M M' As Z hr ⟨a, T, t, c, n, hP, ok, tl, tsub, hn, tok, e1, e2, e3, e4⟩ => ?_
  subst e2 e1 e3
  cases e4
  have hu := hr.un
  have hm1 := ok.m1
  have hm5 := ok.m5
  obtain ⟨fine, hfine⟩ : ∃ b, b = (mfamM (c.evs n) (n + 1)).isNone := ⟨_, rfl⟩
  -- what is told
  have tell : ∃ (fw : Option Nat) (tl : Option (List (List Nat))), (c.few nm n).map (·.length) = fw ∧ c.some nm n = tl ∧ fw.isNone = !fine ∧ tl.isNone = !fine ∧
      (fine = true → ∃ l l', fw = Option.some l.length ∧ tl = Option.some l' ∧ FewOk c n l ∧ l' = if l.length = 0 then [[0]] else l) := by
    cases hf : fine with
    | false =>
      have e : c.few nm n = none := by
        unfold Ch.few
        rw [← hfine, hf]
        rfl
      refine ⟨none, none, by rw [e]; rfl, by unfold Ch.some; rw [e]; rfl, rfl, rfl, fun z => by cases z⟩
    | true =>
      obtain ⟨l, h1, h2⟩ := few_ok nm ok n (by rw [← hfine]; exact hf)
      exact ⟨_, _, by rw [h1]; rfl, by unfold Ch.some; rw [h1]; rfl, rfl, rfl, fun _ => ⟨l, _, rfl, rfl, h2, rfl⟩⟩
  obtain ⟨fw, tl', hfw, htl, fwn, tln, hfin⟩ := tell
  let M0 : Tin → MV := fun t => mTin a T t
  refine jb_par3X (c1 := .val (aB fine)) (c2 := .val (aD (optI fw))) (c3 := .val (aD (optC nm tl'))) 3 4 5 rfl c_case.nd (jxs_cons (jx_of (je_call L.hasb hr (Nat.le_refl _) (ja_cons (je_v 1) (ja_cons (je_v 2) ja_nil)) ⟨c, n, ok, tl, hn, rfl, by rw [hfine]⟩)) (jxs_cons (jx_of (je_callT (T := T) (M := M0 t) (A := aD (dCh nm c)) 0 L.fewest hr (Nat.le_refl _) (ja_cons (je_v 1) (ja_cons (je_v 2) ja_nil)) rfl lnd_Tin (fun v1 => ⟨v1, T, c, n, hP, ok, tl, hn, rfl, rfl, rfl, by rw [hfw]⟩))) (jxs_cons (jx_of (je_callT (T := T) (M := M0 t) (A := aD (dCh nm c)) 0 L.told hr (Nat.le_refl _) (ja_cons (je_v 1) (ja_cons (je_v 2) ja_nil)) rfl lnd_Tin (fun v1 => ⟨v1, T, c, n, hP, ok, tl, hn, rfl, rfl, rfl, by rw [htl]⟩))) jxs_nil))) ?_
  let δi : Tin → Option Cell → Option Cell → Option Cell → Option Cell → DSt := fun t c6 c7 c8 c9 => [some (.mut (M0 t)), some (.val (aD (dCh nm c))), some (.val (aI (n : Int))), some (.val (aB fine)), some (.val (aD (optI fw))), some (.val (aD (optC nm tl'))), c6, c7, c8, c9]
  show JB _ _ (δi t none none none none) _
  -- all three agree
  refine jb_ifR (p := false) (jt_w (jw_or (p := false) (q := false) (JT.eq (jt_cmp op_ne rop_neB (je_is (je_call L.mfam hr (Nat.le_refl _) (ja_cons (je_v 1) (ja_cons (je_v 2) ja_nil)) ⟨c, n, ok, tl, hn, rfl, rfl⟩)) (je_v 3)) ?_) fun _ => jw_or (p := false) (q := false) (JT.eq (jt_cmp op_eq rop_eqB (je_is (je_v 4)) (je_v 3)) ?_) fun _ => jw_or1 (JT.eq (jt_cmp op_eq rop_eqB (je_is (je_v 5)) (je_v 3)) ?_))) (fun z => by cases z) fun _ => ?_
  · rw [hfine]
    cases mfamM (c.evs n) (n + 1) <;> rfl
  · have e : isNon (optI fw) = fw.isNone := by cases fw <;> rfl
    rw [e, fwn]
    cases fine <;> rfl
  · have e : isNon (optC nm tl') = tl'.isNone := by cases tl' <;> rfl
    rw [e, tln]
    cases fine <;> rfl
  refine jb_ifR (p := false) (JT.eq (jt_w (jw_and (p := c.forest) (q := !fine) (jt_val (je_call L.forest hr (Nat.le_refl _) (ja_cons (je_v 1) ja_nil) ⟨c, ok, tl, rfl, rfl⟩)) fun _ => jw_and1 (jt_not (jt_val (je_v 3))))) ?_) (fun z => by cases z) fun _ => ?_
  · cases hf : c.forest with
    | false => rfl
    | true =>
      have := forest_fine ok tsub hn hf
      rw [← hfine] at this
      rw [this]
      rfl
  -- by the told cuts
  refine jb_cons (M := fun d => ∃ c6, d = δi t c6 none none none) (js_if (p := fine) (δ1 := δi t none none none none) (jt_val (je_v 3)) (fun hf => ?_) fun _ => jb_nil ⟨none, rfl⟩) fun δ' ⟨c6, e⟩ => ?_
  · obtain ⟨l, l', e1, e2, fo, e3⟩ := hfin hf
    subst e1 e2
    have l'ok : CutsOk c.m l' ∧ 1 ≤ l'.length ∧ l'.length ≤ 16 ∧ cutlM (c.evs n) l' = true := by
      rw [e3]
      split
      · rename_i h0
        have hz : l = [] := List.length_eq_zero_iff.mp h0
        refine ⟨⟨fun e he => ?_, by simp⟩, by simp, by simp, cutlM_iff.mpr fun p hp => ?_⟩
        · rw [List.mem_singleton.mp he]
          exact ⟨by simp, by simp, fun x hx => by rw [List.mem_singleton.mp hx]; omega⟩
        · rw [fo.nil.mp hz] at hp
          cases hp
      · rename_i h0
        exact ⟨fo.cuts, by omega, fo.few, fo.enough⟩
    obtain ⟨k1, k2, k3, k4⟩ := l'ok
    have bok : (c.by l').Ok := Ch.by_ok ok (by omega)
    obtain ⟨bs1, bs2⟩ := by_sz c l'
    have rt := by_right ok (cs := l') (by omega) n
    rw [← hfine, hf, k4] at rt
    have rs := reader_right bok n
    rw [rt] at rs
    obtain ⟨r, hrd⟩ := Option.isSome_iff_exists.mp rs
    refine jb_set (A := aD (dCh nm (c.by l'))) 6 c_case.nd (je_call L.bits hr (Nat.le_refl _) (ja_cons (je_v 1) (ja_cons (je_v 5) ja_nil)) ⟨c, l', ok, by omega, rfl, rfl⟩) ?_
    refine jb_ifR (p := false) (jt_w (jw_or (p := false) (q := false) (jt_not (p := true) (jt_val (je_call L.cutl hr (Nat.le_refl _) (ja_cons (je_v 1) (ja_cons (je_v 2) (ja_cons (je_v 5) ja_nil))) ⟨c, n, l', ok, tl, hn, k1, rfl, by rw [k4]⟩))) fun _ => jw_or (p := false) (q := false) (jt_not (p := true) (jt_val (je_call L.right hr (Nat.le_refl _) (ja_cons (je_v 6) (ja_cons (je_v 2) ja_nil)) ⟨c.by l', n, bok, tl, hn, rfl, by rw [rt]; rfl⟩))) fun _ => jw_or1 (JT.eq (jt_isnotB (p := true) (q := true) (je_callT (T := []) (M := M0 t) (A := aD (dCh nm (c.by l'))) 0 L.read hr (Nat.le_refl _) (ja_cons (je_v 6) (ja_cons (je_v 2) ja_nil)) rfl lnd_nil (fun v1 => ⟨v1, c.by l', n, bok, tl, hn, by_bit c k3, by omega, fun r hr => reader_ok bok (by_bit c k3) bs2 hr, rfl, rfl, rfl, by rw [hrd]; rfl⟩)) je_bl) rfl))) (fun z => by cases z) fun _ => ?_
    refine jb_cons (M := fun d => ∃ c6, d = δi t c6 none none none) (js_if (p := false) (δ1 := δi t (some (.val (aD (dCh nm (c.by l'))))) none none none) (JT.eq (jt_cmp op_ne (rop_neI (i := (l.length : Int)) (j := (l.length : Int))) (je_v 4) (je_if (δ1 := δi t (some (.val (aD (dCh nm (c.by l'))))) none none none) (p := !(apartM (c.evs n)).isEmpty) (JT.eq (jt_neD (by show (A.deeper _).units + 64 < cLine; omega) (je_call L.topart hr (Nat.le_refl _) (ja_cons (je_v 1) (ja_cons (je_v 2) ja_nil)) ⟨c, n, ok, tl, hn, rfl, rfl⟩) (je_lst (ds := []) ja_nil) (shp_Ps H _) rfl) (by rw [eqv_Ps])) (fun hp => JE.eq (je_lenT (ds := l'.map (eE nm)) m1 (je_v 5)) ?_) fun hp => JE.eq je_int ?_)) ?_) (fun z => by cases z) fun _ => jb_nil ⟨_, rfl⟩) fun δ' h => jb_nil h
    · rw [List.length_map, e3]
      have : l ≠ [] := fun z => by
        rw [fo.nil.mp z] at hp
        cases hp
      rw [if_neg fun z => this (List.length_eq_zero_iff.mp z)]
    · have hz : apartM (c.evs n) = [] := by simpa using hp
      rw [fo.nil.mpr hz]
      rfl
    · simp
  · subst e
    -- drawn cuts, and one of those left out
    obtain ⟨t', ht'⟩ : ∃ t', t' = (drawnM c.m t).2 := ⟨_, rfl⟩
    obtain ⟨dc, hdc⟩ : ∃ dc, dc = setL (drawnM c.m t).1 := ⟨_, rfl⟩
    have d1 := drawn_cuts hm1 t
    have d2 := drawn_len c.m t
    rw [← hdc] at d1 d2
    rw [← ht']
    refine jb_set (A := aD (.list [eEs nm dc])) 7 c_case.nd (je_lst (ds := [eEs nm dc]) (ja_cons (je_callM (As := [aD (dCh nm c)]) (M := M0 t) (M' := M0 t') (Z := aD (eEs nm dc)) 0 L.cuts hr (Nat.le_refl _) (ja_cons (je_v 1) ja_nil) rfl rfl ⟨a, T, t, c, ok, tok, rfl, by rw [ht'], rfl, by rw [hdc]⟩) ja_nil)) ?_
    show JB _ _ (δi t' c6 (some (.val (aD (.list [eEs nm dc])))) none none) _
    let X := (cxOf CX0 P w K mg base N_case "_law_case_right" (defScope s_case) f cdv A outer s0 H0 E).nox
    have cutT : ∀ {l' : List (List Nat)} {δ : DSt}, δ[5]? = some (some (.val (aD (eEs nm l')))) → ∀ {p1 p2 p3 p4 : Pos} {j1 : Nat}, JE X (.Subscript (.Name "_law_told_here" p1) (.Slice (some (.Constant (.int 1) j1 p2)) none none p3) p4) δ δ (aD (eEs nm l'.tail)) := fun {l' δ} h {_ _ _ _ _} => JE.eq (je_slT (ds := l'.map (eE nm)) (je_v 5 h) (jo_some je_int) jo_none) (by rw [cut1, ← List.map_tail])
    have tailOk : ∀ {l : List (List Nat)}, CutsOk c.m l → CutsOk c.m l.tail := fun {l} h => ⟨fun e he => h.ok e (List.mem_of_mem_tail he), h.asc.sublist (List.tail_sublist l)⟩
    have loop : ∀ css : List (List (List Nat)), (∀ cs ∈ css, CutsOk c.m cs ∧ 1 ≤ cs.length ∧ cs.length ≤ 16) → JB X ((defBody s_case).drop 6) (δi t' c6 (some (.val (aD (.list (css.map (eEs nm)))))) none none) (RetM (M0 t') (aB true)) := fun css hcs => by
      let dS : Option Cell := some (.val (aD (.list (css.map (eEs nm)))))
      refine jb_cons (M := fun d => ∃ c6 c8 c9, d = δi t' c6 dS c8 c9) (js_for (I := fun i d => ∃ c6 c8 c9, d = δi t' c6 dS c8 c9) (ji_L (xs := css) (enc := eEs nm) (je_v 7)) PassesOwn.never rfl ⟨c6, none, none, rfl⟩ (fun i A' δ' hA ⟨c6, c8, c9, e⟩ => ?_) (fun δ' h => h)) fun δ' ⟨c6, c8, c9, e⟩ => ?_
      · subst e
        rw [List.getElem?_map] at hA
        cases hxe : css[i]? with
        | none => rw [hxe] at hA; cases hA
        | some cs =>
          rw [hxe] at hA
          cases hA
          obtain ⟨h1, h2, h3⟩ := hcs cs (List.mem_of_getElem? hxe)
          have bok : (c.by cs).Ok := Ch.by_ok ok (by omega)
          obtain ⟨bs1, bs2⟩ := by_sz c cs
          have rt := by_right ok (cs := cs) (by omega) n
          rw [← hfine] at rt
          have rs := reader_right bok n
          rw [rt] at rs
          obtain ⟨due, hdue⟩ : ∃ b, b = (fine && cutlM (c.evs n) cs) := ⟨_, rfl⟩
          rw [← hdue] at rt rs
          refine ⟨_, _, jg_name 8 c_case.nd, ?_⟩
          refine jb_set (A := aD (dCh nm (c.by cs))) 6 c_case.nd (je_call L.bits hr (Nat.le_refl _) (ja_cons (je_v 1) (ja_cons (je_v 8) ja_nil)) ⟨c, cs, ok, by omega, rfl, rfl⟩) ?_
          refine jb_set (A := aB due) 9 c_case.nd (JE.eq (je_and (p := fine) (q := cutlM (c.evs n) cs) (je_v 3) fun _ => je_one (je_call L.cutl hr (Nat.le_refl _) (ja_cons (je_v 1) (ja_cons (je_v 2) (ja_cons (je_v 8) ja_nil))) ⟨c, n, cs, ok, tl, hn, h1, rfl, rfl⟩)) (by rw [hdue])) ?_
          let δw : DSt := δi t' (some (.val (aD (dCh nm (c.by cs))))) dS (some (.val (aD (eEs nm cs)))) (some (.val (aB due)))
          refine jb_cons (M := fun d => ∃ c6 c8 c9, d = δi t' c6 dS c8 c9) (js_if (p := false) (δ1 := δw) (jt_w (jw_or (p := false) (q := false) (JT.eq (jt_cmp op_ne rop_neB (je_call L.right hr (Nat.le_refl _) (ja_cons (je_v 6) (ja_cons (je_v 2) ja_nil)) ⟨c.by cs, n, bok, tl, hn, rfl, rfl⟩) (je_v 9)) ?_) fun _ => jw_or1 (JT.eq (jt_cmp op_ne rop_neB (je_isnot (je_callT (T := []) (M := M0 t') (A := aD (dCh nm (c.by cs))) 0 L.read hr (Nat.le_refl _) (ja_cons (je_v 6) (ja_cons (je_v 2) ja_nil)) rfl lnd_nil (fun v1 => ⟨v1, c.by cs, n, bok, tl, hn, by_bit c h3, by omega, fun r hr => reader_ok bok (by_bit c h3) bs2 hr, rfl, rfl, rfl, rfl⟩))) (je_v 9)) ?_))) (fun z => by cases z) fun _ => jb_nil ⟨_, _, _, rfl⟩) fun δ' h => jb_nil h
          · rw [rt]
            cases due <;> rfl
          · have e : isNon (optB (((c.by cs).reader n).map fun _ => true)) = !((c.by cs).reader n).isSome := by cases (c.by cs).reader n <;> rfl
            rw [e, rs]
            cases due <;> rfl
      · subst e
        cases hf : fine with
        | false => exact jb_ret (je_or (p := true) (q := true) (JE.eq (je_not (je_v (A := aB fine) 3)) (by rw [hf]; rfl)) fun z => by cases z) (fun _ _ h => h) rfl
        | true =>
          obtain ⟨l, l', e1, e2, fo, e3⟩ := hfin hf
          subst e1 e2
          by_cases h2 : l.length < 2
          · exact jb_ret (je_or (p := false) (q := true) (JE.eq (je_not (je_v (A := aB fine) 3)) (by rw [hf]; rfl)) fun _ => je_or (p := true) (q := true) (JE.eq (je_lt (i := (l.length : Int)) (j := 2) (je_v 4) je_int) (by rw [decide_eq_true (by omega)])) fun z => by cases z) (fun _ _ h => h) rfl
          · have el : l' = l := by rw [e3, if_neg (by omega)]
            subst el
            have hl : cutlM (c.evs n) l'.tail = false := by
              cases q : cutlM (c.evs n) l'.tail with
              | false => rfl
              | true =>
                have := fo.least l'.tail (fun e he => (tailOk fo.cuts).ok e he) q
                rw [List.length_tail] at this
                omega
            exact jb_ret (je_or (p := false) (q := true) (JE.eq (je_not (je_v (A := aB fine) 3)) (by rw [hf]; rfl)) fun _ => je_or (p := false) (q := true) (JE.eq (je_lt (i := (l'.length : Int)) (j := 2) (je_v 4) je_int) (by rw [decide_eq_false (by omega)])) fun _ => je_one (JE.eq (je_not (je_call L.cutl hr (Nat.le_refl _) (ja_cons (je_v 1) (ja_cons (je_v 2) (ja_cons (cutT rfl) ja_nil))) ⟨c, n, l'.tail, ok, tl, hn, tailOk fo.cuts, rfl, rfl⟩)) (by rw [hl]; rfl))) (fun _ _ h => h) rfl
    let δv : DSt := δi t' c6 (some (.val (aD (.list [eEs nm dc])))) none none
    cases hf : fine with
    | false =>
      refine jb_set (A := aD (.list ([dc].map (eEs nm)))) (δ1 := δv) 7 c_case.nd (je_if (δ1 := δv) (p := false) (JT.eq (jt_w (jw_and (p := false) (q := false) (JT.eq (jt_val (je_v (A := aB fine) 3)) hf) fun z => by cases z)) rfl) (fun z => by cases z) fun _ => je_v 7) ?_
      exact loop [dc] fun cs hcs => by rw [List.mem_singleton.mp hcs]; exact ⟨d1, d2.1, by omega⟩
    | true =>
      obtain ⟨l, l', e1, e2, fo, e3⟩ := hfin hf
      subst e1 e2
      by_cases h2 : 1 < l.length
      · have el : l' = l := by rw [e3, if_neg (by omega)]
        subst el
        refine jb_set (A := aD (.list ([dc, l'.tail].map (eEs nm)))) (δ1 := δv) 7 c_case.nd (je_if (δ1 := δv) (p := true) (JT.eq (jt_w (jw_and (p := true) (q := true) (JT.eq (jt_val (je_v (A := aB fine) 3)) hf) fun _ => jw_and1 (JT.eq (jt_cmp op_gt (rop_B0 (i := (l'.length : Int)) (j := 1)) (je_v 4) je_int) (decide_eq_true (by omega))))) rfl) (fun _ => je_addL (ds := [eEs nm dc]) (es := [eEs nm l'.tail]) (je_v 7) (je_lst (ds := [eEs nm l'.tail]) (ja_cons (cutT rfl) ja_nil)) (small (by simp))) fun z => by cases z) ?_
        refine loop [dc, l'.tail] fun cs hcs => ?_
        rcases List.mem_cons.mp hcs with z | z
        · rw [z]; exact ⟨d1, d2.1, by omega⟩
        · rw [List.mem_singleton.mp z]
          have := fo.few
          exact ⟨tailOk fo.cuts, by rw [List.length_tail]; omega, by rw [List.length_tail]; omega⟩
      · refine jb_set (A := aD (.list ([dc].map (eEs nm)))) (δ1 := δv) 7 c_case.nd (je_if (δ1 := δv) (p := false) (JT.eq (jt_w (jw_and (p := true) (q := false) (JT.eq (jt_val (je_v (A := aB fine) 3)) hf) fun _ => jw_and1 (JT.eq (jt_cmp op_gt (rop_B0 (i := (l.length : Int)) (j := 1)) (je_v 4) je_int) (decide_eq_false (by omega))))) rfl) (fun z => by cases z) fun _ => je_v 7) ?_
        exact loop [dc] fun cs hcs => by rw [List.mem_singleton.mp hcs]; exact ⟨d1, d2.1, by omega⟩
end
end J
/-! The script; new lists handed back; tables beside the arguments. -/
namespace J
open PySem PySem.Spec L2
/-- the script: a list of ints, wherever it stands -/
def aSq (K : PySem.W.Frag) (ns : List Int) : AV := ⟨fun B v => ∃ a, v = .ref a ∧ SqL K B a (ns.map V.int) ∧ ns.length ≤ sizeLine, fun {B B' v} s ⟨a, e, h, hl⟩ => ⟨a, e, by
  rcases h with (h | ⟨o, h⟩) | h
  · exact .inl (.inl (s _ _ h))
  · exact .inl (.inr ⟨o, s _ _ h⟩)
  · exact .inr h, hl⟩⟩
theorem dd_ints {B : Hp} : ∀ ns : List Int, DdAll B (ns.map V.int) (ns.map PyData.int)
  | [] => .nil
  | n :: ns => .cons (.int n) (dd_ints ns)
section
variable {X : Cx} {δ δ1 δ2 δ3 : DSt} {a b e : Expr} {es : List Expr} {pos p : Pos} {ns : List Int} {ds : List PyData} {i j : Int} {As : List AV} {A Z : AV}
theorem je_slSq {lo hi : Option Expr} {l h' : Option Int} {p2 : Pos} (ha : JE X a δ δ1 (aSq X.K ns)) (hl : JO X lo δ1 δ2 l) (hh : JO X hi δ2 δ3 h') : JE X (.Subscript a (.Slice lo hi none p2) pos) δ δ3 (aD (.list (cutD (ns.map .int) l h'))) :=
  PE.imp (pe_slice sl_list ha hl hh) fun σ H Q ⟨F, B, E, q⟩ => ⟨F, B, E, fun v B1 H1 E1 s1 a1 => ⟨F, B1, E1, fun B2 H2 E2 s2 => ⟨F, B2, E2, fun B3 H3 E3 s3 => by
    obtain ⟨a, rfl, hx, hz⟩ := (aSq X.K ns).mono E3.bh ((aSq X.K ns).mono s3 ((aSq X.K ns).mono s2 a1))
    refine ⟨a, ns.map V.int, rfl, hx, fun p hp => ?_⟩
    have sB := same_upd (o := .lst (cutV (ns.map V.int) l h')) (E3.bh.free hp)
    exact q _ _ _ (E3.laid hp) (((s1.trans s2).trans s3).trans sB) (.lst upd_same (Nat.le_trans (cutD_len _ _) (by rw [List.length_map]; exact hz)) ((dd_ints ns).cut _ _))⟩⟩⟩
theorem je_mulS (ha : JE X a δ δ1 (aI i)) (hb : JE X b δ1 δ2 (aI j)) (h : CMul i j) : JE X (.BinOp a .Mult b pos) δ δ2 (aI (i * j)) := je_op op_mul (rop_I h) ha hb
theorem je_pow (ha : JE X a δ δ1 (aI i)) (hb : JE X b δ1 δ2 (aI j)) (h : CPow i j) : JE X (.BinOp a .Pow b pos) δ δ2 (aI (i ^ j.toNat)) := je_op op_pow (rop_I h) ha hb
theorem Env.unguard {F B H : Hp} {σ : L2.St} {δ : DSt} {p : Addr} {o : HO} (E : Env (upd F p o) B H σ δ) (hF : F p = none) : Env F B H σ δ := by
  obtain ⟨Rg, e⟩ := E
  have le : ∀ a x, F a = some x → upd F p o a = some x := fun a x h => by rw [upd_ne (ne_of_none h hF)]; exact h
  refine ⟨Rg, ⟨e.bh, fun a x h => e.fr a x (le a x h), e.len, e.sl, fun i a h => ?_, e.dj, fun a xs h => e.ft a xs (le a _ h), e.rt⟩⟩
  obtain ⟨q1, q2, q3⟩ := e.rg i a h
  refine ⟨q1, q2, ?_⟩
  cases q : F a with
  | none => rfl
  | some x => rw [le a x q] at q3; cases q3
/-- a or b, lists -/
theorem jn_or {es : List PyData} (ha : JN X a δ δ1 (isL ds)) (hb : JN X b δ1 δ1 (isL es)) : JN X (.BoolOp .Or [a, b] pos) δ δ1 (isL (if ds.isEmpty then es else ds)) :=
  PE.imp (pe_orT ha (pe_one hb)) fun σ H Q ⟨F, B, E, q⟩ => ⟨F, B, E, fun p o B1 H1 f E1 s1 ⟨vs, eo, dv, hl⟩ => by
    subst eo
    have hp := (E1.fr p _ upd_same).1
    refine ⟨!vs.isEmpty, .inl ⟨vs, SqL.of hp, rfl⟩, ?_⟩
    cases ds with
    | nil =>
      cases dv
      refine (if_neg (by simp)).mpr ?_
      exact ⟨F, B1, E1.unguard f, fun p2 o2 B2 H2 f2 E2 s2 r2 => q p2 o2 B2 H2 f2 E2 (s1.trans s2) r2⟩
    | cons d ds =>
      cases dv with
      | cons r t =>
        refine (if_pos (by simp)).mpr ?_
        exact q p _ B1 H1 f E1 s1 ⟨_, rfl, .cons r t, hl⟩⟩
end
/-! ### a def that hands back a new thing -/
abbrev RlN := List AV → (Hp → HO → Prop) → Prop
def spN (R : RlN) : Sp := fun vs H Q _ => ∃ B As Rn, (Same B H ∧ TupIn B H) ∧ All2 (fun (A : AV) v => A.p B v) As vs ∧ R As Rn ∧
  ∀ p o B' H', H p = none → Same B B' → Same B' H' → (∀ a o, H a = some o → B a = none → H' a = some o ∧ B' a = none) → H' p = some o → B' p = none → Rn B' o → Q (.ref p) H'
def tBN (δ : DSt) (Rn : Hp → HO → Prop) : TS := fun D σ H => ∃ F B, Env F B H σ δ ∧ ∀ p o B' H' σ' δ', F p = none → Env (upd F p o) B' H' σ' δ' → Same B B' → Rn B' o → D.rt (.ref p) H'
def JBN (X : Cx) (sts : List Stmt) (δ : DSt) (Rn : Hp → HO → Prop) : Prop := PSs X sts (tBN δ Rn)
def nAny (X : Cx) (sts : List Stmt) (Rn : Hp → HO → Prop) : TS := fun D σ H => ∃ δ, JBN X sts δ Rn ∧ tBN δ Rn D σ H
section
variable {X : Cx} {δ δ1 : DSt} {st : Stmt} {sts : List Stmt} {M : DSt → Prop} {Rn : Hp → HO → Prop} {e : Expr} {pos : Pos}
theorem pn_any : PSs X sts (nAny X sts Rn) := ⟨fun pins s σ H D I ⟨δ, j, q⟩ => j.run pins s σ H D I q⟩
theorem jbn_cons (h1 : JS X st δ { nx := M }) (h2 : ∀ δ', M δ' → JBN X sts δ' Rn) : JBN X (st :: sts) δ Rn :=
  PSs.imp (pss_cons h1 pn_any) fun D σ H ⟨F, B, E, q⟩ => ⟨F, B, E, fun δ' σ' B' H' m E' s => ⟨δ', h2 δ' m, F, B', E', fun a b c d e f g h i j => q a b c d e f g h (s.trans i) j⟩, fun _ _ _ _ z => z.elim, fun _ _ _ _ z => z.elim, fun _ _ _ _ z => z.elim⟩
theorem jbn_ret (he : JN X e δ δ1 Rn) : JBN X [.Return (some e) pos] δ Rn :=
  PSs.imp (pss_one (ps_ret he)) fun D σ H ⟨F, B, E, q⟩ => ⟨F, B, E, fun p o B' H' f E' s r => q p o B' H' σ δ1 f E' s r⟩
end
section
variable {P : Program} {w : World} {K : PySem.W.Frag} {mg : Str → Option Value} {base : Heap}
theorem fn_jN {x qual : Str} {st : Stmt} {f : Addr} {fd : FuncData} {N ps : List Str} {k : Nat} {R : RlN} (F : Fun K x qual st f fd) (S : FnScope N ps (defScope st)) (hl : ∀ As Z, R As Z → As.length = ps.length)
    (body : ∀ (cdv : Value) (A : Around) (outer : List PySem.Env) (s : Shared) (H : Hp) (E : XK) (As : List AV) (Rn : Hp → HO → Prop), Room k (A.deeper (PyProof.Rows.envOfC qual (defScope st) s.heap.objs.size f cdv)) → R As Rn →
      JBN (cxOf CX0 P w K mg base N qual (defScope st) f cdv A outer s H E).nox (defBody st) (d0 N As) Rn) : FnOk P w K mg base CX0 (k + 1) f fd ps (spN R) := by
  refine F.ok S (fun vs H Q E ⟨B, As, Rn, _, h, r, _⟩ => by rw [← h.length]; exact hl As Rn r) fun cdv A outer s H vs Q E hr ⟨B, As, Rn, sB, h, r, q⟩ => ?_
  refine ⟨_, body cdv A outer s H E As Rn hr r, rest B H, B, env_start sB h, fun p o B' H' σ' δ' f E' s' rn => ?_⟩
  obtain ⟨h1, h2⟩ := E'.fr p o upd_same
  have hp : H p = none := by
    cases hH : H p with
    | none => rfl
    | some u =>
      exfalso
      cases hB : B p with
      | none =>
        rw [rest_of hH hB] at f
        cases f
      | some x =>
        have := s' p x hB
        rw [h2] at this
        cases this
  exact q p o B' H' hp s' E'.bh (fun a u z1 z2 => E'.fr a u (by rw [upd_ne (ne_of_none z1 hp)]; exact rest_of z1 z2)) h1 h2 rn
structure CalN (P : Program) (w : World) (K : PySem.W.Frag) (mg : Str → Option Value) (base : Heap) (k : Nat) (x : Str) (R : RlN) : Prop where
  ex : ∃ f fd ps, FnOk P w K mg base CX0 k f fd ps (spN R) ∧ mg x = some (.ref f) ∧ PySem.W.keepIn K (.ref f) = true ∧ Binds K fd ps []
end
section
variable {X : Cx} {F B B' H H' : Hp} {δ δ1 δ2 : DSt} {A Z : AV} {e : Expr} {es : List Expr} {pos p : Pos} {As : List AV} {M : MV}
theorem jn_callN {x : Str} {k j : Nat} {R : RlN} {Rn : Hp → HO → Prop} (nt : ∀ B o, Rn B o → NotT o) (Cl : CalN X.prog X.w X.K X.mg X.base k x R) (hr : Room j X.A) (hk : k ≤ j) (ha : JA X (e :: es) δ δ1 As) (h : R As Rn) (hg : Gl X x := by rfl) (hdb : (x == ("__debug__" : Str)) = false := by decide)
    (he : starEach (e :: es) X.env = (false, eval e X.env) :: starEach es X.env := by rfl) (hpl : (backTo pos (starEach es X.env)).any (·.1) = false := by rfl) : JN X (.Call (.Name x p) (e :: es) [] pos) δ δ1 Rn := by
  obtain ⟨f, fd, ps, g1, g2, g3, g4⟩ := Cl.ex
  refine PE.imp (pe_call g1 (hr.mono hk) hg g2 g3 g4 .nil pass0 ha hdb he hpl) fun σ H Q ⟨F, B, E, q⟩ => ⟨F, B, E, fun vs B1 H1 E1 s1 a1 => ?_⟩
  refine (show spN R (vs ++ []) H1 Q E0 from ?_)
  rw [List.append_nil]
  have E2 := E1.tups
  obtain ⟨t1, t2⟩ := tups_same E1.bh
  refine ⟨tups B1 H1, As, Rn, ⟨t2, fun a xs => tupB_of⟩, a1.imp fun A v => A.mono t1, h, fun p o B2 H2 hp s2 s3 kp h1 h2 rn => ?_⟩
  have hF : F p = none := E2.fresh hp
  let H3 : Hp := fun a => if a = p then none else H2 a
  have e3 : upd H3 p o = H2 := by
    funext a
    by_cases z : a = p
    · rw [z, upd_same, h1]
    · rw [upd_ne z]
      exact if_neg z
  have E3 : Env F B2 H3 σ δ1 := E2.step s2 (fun a x z => by
    have za : a ≠ p := fun z2 => by rw [z2, h2] at z; cases z
    show (if a = p then none else H2 a) = some x
    rw [if_neg za]
    exact s3 a x z) fun a u z1 z2 => by
    obtain ⟨k1, k2⟩ := kp a u z1 z2
    refine ⟨?_, k2⟩
    show (if a = p then none else H2 a) = some u
    rw [if_neg (ne_of_none z1 hp)]
    exact k1
  have E4 := E3.newOwn (o := o) (p := p) (if_pos rfl) (nt _ _ rn)
  rw [e3] at E4
  exact q p o B2 H2 hF E4 ((s1.trans t1).trans s2) rn
/-! ### what is new is lent, the tables with it -/
theorem je_callNT {x : Str} {k j : Nat} {C : Value} {R : RlM} {T : List Addr} {t : Tin} {g : Addr → Tin} (n : Nat) (Cl : CalM CX0 X.prog X.w X.K X.mg X.base k x C R) (hr : Room j X.A) (hk : k ≤ j) (he0 : JN X e δ δ1 (isL [.int t.g, .int t.k, .int t.c])) (h1 : δ1[n]? = some (some (.mut M))) (L : Lnd M T) (h : ∀ a, R (mTin a T t) (mTin a T (g a)) [] (some Z))
    (hg : Gl X x := by rfl) (hdb : (x == ("__debug__" : Str)) = false := by decide) (hst : starEach [e] X.env = (false, eval e X.env) :: starEach [] X.env := by rfl) (hpl : (backTo pos (starEach [] X.env)).any (·.1) = false := by rfl) :
    JE X (.Call (.Name x p) [e] [] pos) δ δ1 Z := by
  obtain ⟨f, fd, ps, g1, g2, g3, g4⟩ := Cl.ex
  refine PE.imp (pe_call g1 (hr.mono hk) hg g2 g3 g4 .nil pass0 (pa_cons he0 pa_nil hst) hdb hst hpl) fun σ H Q ⟨F, B, E, q⟩ => ⟨F, B, E, fun p o B1 H1 f0 E1 s1 ⟨vs, eo, dv, hl⟩ => ?_⟩
  refine (show spM C R ([V.ref p] ++ []) H1 Q E0 from ?_)
  have ev : vs = t.ds := by
    cases dv with
    | cons r1 t1 => cases t1 with
      | cons r2 t2 => cases t2 with
        | cons r3 t3 =>
          cases t3
          rw [Dd.int_eq r1, Dd.int_eq r2, Dd.int_eq r3]
          rfl
  subst eo ev
  have E2 := E1.tups
  obtain ⟨t1, t2⟩ := tups_same E1.bh
  obtain ⟨Rg, e'⟩ := id E2
  obtain ⟨p1, p2⟩ := e'.fr p _ upd_same
  obtain ⟨v, z1, z2⟩ := e'.sl n _ h1
  obtain ⟨L1, L2', L3⟩ := L _ _ _ _ z2
  have npR : ∀ i a, a ∈ Rg i → a ≠ p := fun i a ha z => by
    have := (e'.rg i a ha).2.2
    rw [z, upd_same] at this
    cases this
  refine ⟨tups B1 H1, mTin p T t, mTin p T (g p), [], some Z, .ref p, [], p :: T, rfl, ⟨t2, fun a xs => tupB_of⟩, ⟨rfl, rfl, p1, L2'⟩, fun a ha => ?_, .nil, h p, fun u B2 H2 Z' eZ s2 s3 k2 m2 o2 zz => ?_, fun d B2 H2 eZ => by cases eZ⟩
  · rcases List.mem_cons.mp ha with z | z
    · rw [z]
      exact ⟨p2, (by rw [p1]; exact (fun w => nomatch w)), (fun xs w => by rw [p1] at w; cases w)⟩
    · exact ⟨(e'.rg n a (L1 a z)).1, (e'.rg n a (L1 a z)).2.1, fun xs => e'.rt n a xs (L1 a z)⟩
  · cases eZ
    -- without the new list
    let H0 : Hp := fun a => if a = p then none else H1 a
    have at0 : ∀ a, a ≠ p → H0 a = H1 a := fun a ha => if_neg ha
    have e0 : EnvR F (tups B1 H1) H0 σ δ1 Rg := ⟨fun a x w => by
        have wa : a ≠ p := fun z => by rw [z, p2] at w; cases w
        rw [at0 a wa]
        exact e'.bh a x w, fun a x w => by
        have wa : a ≠ p := ne_of_none w f0
        have := e'.fr a x (by rw [upd_ne wa]; exact w)
        exact ⟨by rw [at0 a wa]; exact this.1, this.2⟩, e'.len, fun i c hc => by
        obtain ⟨u, w1, w2⟩ := e'.sl i c hc
        exact ⟨u, w1, w2.mono (Same.refl _) fun a ha => at0 a (npR i a ha)⟩, fun i a ha => by
        obtain ⟨w1, w2, w3⟩ := e'.rg i a ha
        refine ⟨w1, by rw [at0 a (npR i a ha)]; exact w2, ?_⟩
        rw [upd_ne (npR i a ha)] at w3
        exact w3, e'.dj, fun a xs w => e'.ft a xs (by rw [upd_ne (ne_of_none w f0)]; exact w), fun i a xs ha w => e'.rt i a xs ha (by rw [← at0 a (npR i a ha)]; exact w)⟩
    have kk : KeepR (tups B1 H1) H0 T B2 H2 := fun a x w1 w2 w3 => by
      have wa : a ≠ p := fun z => by
        have : H0 a = none := if_pos z
        rw [this] at w1
        cases w1
      exact k2 a x (by rw [← at0 a wa]; exact w1) w2 fun z => (List.mem_cons.mp z).elim wa w3
    have E3 := e0.stepR (M' := M) h1 z1 s2 s3 kk L1 (fun a ha => o2 a (List.mem_cons_of_mem _ ha)) (L3 B2 H2 s2 (fun a ha na => by
      obtain ⟨q1, q2, q3⟩ := e'.rg n a ha
      cases w : H1 a with
      | none => exact absurd w q2
      | some x => exact (k2 a x w q1 fun z => (List.mem_cons.mp z).elim (npR n a ha) na).1) m2.2.2.2)
    rw [set_same h1] at E3
    exact q u B2 H2 E3 ((s1.trans t1).trans s2) zz
/-! ### a def without arguments, the tables beside -/
end
def spT (P0 : Addr) (Z : AV) : Sp := fun vs H Q _ => ∃ B T, vs = [] ∧ (Same B H ∧ TupIn B H) ∧ P0 ∈ T ∧ TabG B H T ∧ Own1 B H T ∧
  ∀ v B' H', Same B B' → Same B' H' → KeepR B H T B' H' → TabG B' H' T → Own1 B' H' T → Z.p B' v → Q v H'
structure CalT (P : Program) (w : World) (K : PySem.W.Frag) (mg : Str → Option Value) (base : Heap) (k : Nat) (x : Str) (P0 : Addr) (Z : AV) : Prop where
  ex : ∃ f fd, FnOk P w K mg base CX0 k f fd [] (spT P0 Z) ∧ mg x = some (.ref f) ∧ PySem.W.keepIn K (.ref f) = true ∧ Binds K fd [] []
section
variable {X : Cx} {δ δ1 : DSt} {Z : AV} {pos p : Pos} {M : MV}
theorem je_call0T {x : Str} {k j : Nat} {T : List Addr} {P0 : Addr} (n : Nat) (Cl : CalT X.prog X.w X.K X.mg X.base k x P0 Z) (hr : Room j X.A) (hk : k ≤ j) (h1 : δ[n]? = some (some (.mut M))) (L : Lnd M T) (hP : P0 ∈ T) (hg : Gl X x := by rfl) (hdb : (x == ("__debug__" : Str)) = false := by decide) : JE X (.Call (.Name x p) [] [] pos) δ δ Z := by
  obtain ⟨f, fd, g1, g2, g3, g4⟩ := Cl.ex
  refine PE.imp (pe_call0 g1 (hr.mono hk) hg g2 g3 g4 .nil pass0 hdb) fun σ H Q ⟨F, B, E, q⟩ => ?_
  refine (show spT P0 Z ([] ++ []) H Q E0 from ?_)
  have E2 := E.tups
  obtain ⟨t1, t2⟩ := tups_same E.bh
  obtain ⟨Rg, e⟩ := id E2
  obtain ⟨v, z1, z2⟩ := e.sl n _ h1
  obtain ⟨L1, L2', L3⟩ := L _ _ _ _ z2
  refine ⟨tups B H, T, rfl, ⟨t2, fun a xs => tupB_of⟩, hP, L2', fun a ha => ⟨(e.rg n a (L1 a ha)).1, (e.rg n a (L1 a ha)).2.1, fun xs => e.rt n a xs (L1 a ha)⟩, fun u B2 H2 s2 s3 k2 tg o2 zz => ?_⟩
  have E3 := e.stepR (M' := M) h1 z1 s2 s3 k2 L1 o2 (L3 B2 H2 s2 (fun a ha na => by
    obtain ⟨q1, q2, q3⟩ := e.rg n a ha
    cases w : H a with
    | none => exact absurd w q2
    | some x => exact (k2 a x w q1 na).1) tg)
  rw [set_same h1] at E3
  exact q u B2 H2 E3 (t1.trans s2) zz
end
end J
/-! _law_box, _law_cells, _law_same, _law_right. -/
namespace J
open PySem PySem.Spec L2
/-! ### the source of draws, made -/
def boxM (v : Int) (k : Nat) : Tin := ⟨(if v < 0 then -v else v) * (if decide (10 ^ 18 ≤ (if v < 0 then -v else v)) then 1 else 0), v % 2305843009213693951 + 39373 * (k : Int) + 2096, 0⟩
theorem box_ok (v : Int) {k : Nat} (hk : k ≤ 1) : (boxM v k).Ok 1000 := by
  have h1 := Int.emod_nonneg v (b := 2305843009213693951) (by decide)
  have h2 := Int.emod_lt_of_pos v (b := 2305843009213693951) (by decide)
  refine ⟨?_, ?_, ?_, ?_⟩
  · show 0 ≤ v % 2305843009213693951 + 39373 * (k : Int) + 2096
    omega
  · show v % 2305843009213693951 + 39373 * (k : Int) + 2096 < 9223372036854775808
    omega
  · show (0 : Int) ≤ 0
    omega
  · show (0 : Int) + 1000 ≤ 1000000000
    omega
section
variable {P : Program} {w : World} {K : PySem.W.Frag} {mg : Str → Option Value} {base : Heap} {nm : Nat → Str} {f : Addr} {fd : FuncData} {k : Nat}
abbrev s_box : Stmt := topS 55
abbrev N_box : List Str := ["_law_script", "_law_k", "_law_great_so"]
theorem c_box : FnScope N_box ["_law_script", "_law_k"] (defScope s_box) := ⟨rfl, rfl, rfl, by decide +kernel, rfl, by decide +kernel, by decide +kernel⟩
def R_box : RlN := fun As Rn => ∃ (vs : List Int) (k : Nat) (v : Int), vs[k]? = Option.some v ∧ k ≤ 1 ∧ As = [aD (.list (vs.map .int)), aI (k : Int)] ∧ Rn = isL [.int (boxM v k).g, .int (boxM v k).k, .int (boxM v k).c]
theorem f_box (F : Fun K "_law_box" "_law_box" s_box f fd) (m1 : mg "len" = none) (m2 : mg "abs" = none) (m3 : mg "int" = none) : FnOk P w K mg base CX0 (k + 1) f fd ["_law_script", "_law_k"] (spN R_box) := by
  refine fn_jN F c_box (fun As Z ⟨_, _, _, _, _, e, _⟩ => by rw [e]; rfl) fun cdv A outer s H E As Rn hr ⟨vs, n, v, hv, hn, e1, e2⟩ => ?_
  subst e1 e2
  have hl := (List.getElem?_eq_some_iff.mp hv).1
  let δ0 : DSt := [some (.val (aD (.list (vs.map .int)))), some (.val (aI (n : Int))), some (.val (aI v))]
  refine jbn_cons (M := fun d => d = δ0) (js_set (A := aI v) 2 (je_if (p := true) (JT.eq (jt_cmp op_lt rop_B0 (je_v 1) (je_lenL (ds := vs.map .int) m1 (je_v 0))) (by rw [List.length_map]; exact decide_eq_true (by omega))) (fun _ => je_ixL (ds := vs.map .int) (d := .int v) (je_v 0) (je_v 1) (atI_nat (j := n) (by rw [List.getElem?_map, hv]; rfl))) fun z => by cases z) rfl c_box.nd) fun δ' e => ?_
  subst e
  refine jbn_ret (jn_lst (ds := [.int (boxM v n).g, .int (boxM v n).k, .int (boxM v n).c]) (ja_cons (je_mulS (je_abs m2 (je_v 2)) (je_intB m3 (je_ge (je_abs m2 (je_v 2)) (je_pow je_int je_int ⟨by decide, by decide, by decide⟩))) (.inr ?_)) (ja_cons (je_add (je_add (je_mod (je_intI m3 (je_v 2)) je_int (by decide)) (je_mulS je_int (je_v 1) (.inl ⟨by decide, by decide⟩))) je_int) (ja_cons je_int ja_nil))))
  have : ∀ b : Bool, -(2^64:Int) < (if b then 1 else 0) ∧ (if b then (1:Int) else 0) < 2^64 := by decide
  exact this _
/-! ### _law_cells -/
def cellsF (c0 ms : List Int) : List Int := ms.zipIdx.foldl (fun cs q => cs.set (q.2 % 2) (cs.getD (q.2 % 2) 0 + q.1 * ((q.2 : Int) + 2))) c0
def cellsM (ns : List Int) : List Int := cellsF (if (ns.take 2).isEmpty then [0] else ns.take 2) ((ns.drop 2).take 61)
theorem cellsF_len (c0 ms : List Int) : (cellsF c0 ms).length = c0.length := by
  have h : ∀ (l : List (Int × Nat)) (c : List Int), (l.foldl (fun cs q => cs.set (q.2 % 2) (cs.getD (q.2 % 2) 0 + q.1 * ((q.2 : Int) + 2))) c).length = c.length := fun l => by
    induction l with
    | nil => intro c; rfl
    | cons q l ih =>
      intro c
      rw [List.foldl_cons, ih, List.length_set]
  exact h _ _
theorem cells_len (ns : List Int) : 1 ≤ (cellsM ns).length ∧ (cellsM ns).length ≤ 2 := by
  unfold cellsM
  rw [cellsF_len]
  cases ns with
  | nil => exact ⟨by decide, by decide⟩
  | cons a l =>
    cases l with
    | nil => exact ⟨by simp, by simp⟩
    | cons b l => exact ⟨by simp, by simp⟩
theorem cut_mid (ds : List PyData) : cutD ds (some 2) (some 63) = (ds.drop 2).take 61 := by
  unfold cutD
  rw [show (some (2 : Int)) = some ((2 : Nat) : Int) from rfl, show (some (63 : Int)) = some ((63 : Nat) : Int) from rfl, HT.sIx_nat, HT.sIx_nat]
  by_cases h : 2 ≤ ds.length
  · rw [Nat.min_eq_left h]
    by_cases h2 : 63 ≤ ds.length
    · rw [Nat.min_eq_left h2]
    · rw [Nat.min_eq_right (by omega), List.take_of_length_le (by rw [List.length_drop]; exact Nat.le_refl _), List.take_of_length_le (by rw [List.length_drop]; omega)]
  · rw [List.drop_eq_nil_of_le (by omega), List.drop_eq_nil_of_le (by omega), List.take_nil, List.take_nil]
abbrev s_cells : Stmt := topS 57
abbrev N_cells : List Str := ["_law_script", "_law_most", "_law_cells_here", "_law_k", "_law_great_so", "_law_at_so"]
theorem c_cells : FnScope N_cells ["_law_script", "_law_most"] (defScope s_cells) := ⟨rfl, rfl, rfl, by decide +kernel, rfl, by decide +kernel, by decide +kernel⟩
def R_cells (K : PySem.W.Frag) : Rl := fun As Z => ∃ ns : List Int, As = [aSq K ns, aI 2] ∧ Z = aD (.list ((cellsM ns).map .int))
theorem f_cells (F : Fun K "_law_cells" "_law_cells" s_cells f fd) (m1 : mg "list" = none) (m2 : mg "enumerate" = none) (m3 : mg "int" = none) : FnOk P w K mg base CX0 (k + 1) f fd ["_law_script", "_law_most"] (spJ (R_cells K)) := by
  refine fn_j F c_cells (fun As Z ⟨_, e, _⟩ => by rw [e]; rfl) fun cdv A outer s H E As Z hr ⟨ns, e1, e2⟩ => ?_
  subst e1 e2
  obtain ⟨c0, hc0⟩ : ∃ c0, c0 = if (ns.take 2).isEmpty then [(0 : Int)] else ns.take 2 := ⟨_, rfl⟩
  obtain ⟨ms, hms⟩ : ∃ ms, ms = (ns.drop 2).take 61 := ⟨_, rfl⟩
  have c2 : ∀ q : Nat, q < ms.length → c0.length = 2 := fun q hq => by
    rw [hms, List.length_take, List.length_drop] at hq
    rw [hc0]
    cases ns with
    | nil => simp at hq
    | cons a l =>
      cases l with
      | nil => simp at hq
      | cons b l => simp
  refine jb_setL (ds := c0.map .int) 2 c_cells.nd (JN.to (jn_or (ds := (ns.take 2).map .int) (es := [PyData.int 0]) (jn_list (.inl rfl) m1 (JE.eq (je_slSq (je_v 0) jo_none (jo_some (je_v 1))) ?_)) (jn_lst (ds := [PyData.int 0]) (ja_cons je_int ja_nil))) fun B o h => ?_) ?_
  · rw [show (some (2 : Int)) = some ((2 : Nat) : Int) from rfl, cutD_to, List.map_take]
  · have e : (if ((ns.take 2).map PyData.int).isEmpty then [PyData.int 0] else (ns.take 2).map PyData.int) = c0.map .int := by
      rw [hc0, List.isEmpty_map]
      split <;> rfl
    rw [e] at h
    exact h
  let st : Nat → List Int := fun i => (ms.zipIdx.take i).foldl (fun cs q => cs.set (q.2 % 2) (cs.getD (q.2 % 2) 0 + q.1 * ((q.2 : Int) + 2))) c0
  have stl : ∀ i, (st i).length = c0.length := fun i => by
    have h : ∀ (l : List (Int × Nat)) (c : List Int), (l.foldl (fun cs q => cs.set (q.2 % 2) (cs.getD (q.2 % 2) 0 + q.1 * ((q.2 : Int) + 2))) c).length = c.length := fun l => by
      induction l with
      | nil => intro c; rfl
      | cons q l ih =>
        intro c
        rw [List.foldl_cons, ih, List.length_set]
    exact h _ _
  let δi : List Int → Option Cell → Option Cell → Option Cell → DSt := fun cs c3 c4 c5 => [some (.val (aSq K ns)), some (.val (aI 2)), some (.mut (mL (cs.map .int))), c3, c4, c5]
  refine jb_cons (M := fun d => ∃ c3 c4 c5, d = δi (st ms.length) c3 c4 c5) (js_for (I := fun i d => i ≤ ms.length ∧ ∃ c3 c4 c5, d = δi (st i) c3 c4 c5) (ji_enumL (As := (ms.map PyData.int).map aD) m2 (je_LA (JE.eq (je_slSq (je_v 0) (jo_some (je_v 1)) (jo_some je_int)) ?_))) PassesOwn.never rfl ⟨Nat.zero_le _, none, none, none, rfl⟩ (fun i A' δ' hA ⟨hi, c3, c4, c5, e⟩ => ?_) (fun δ' ⟨_, c3, c4, c5, e⟩ => ⟨c3, c4, c5, ?_⟩)) fun δ' ⟨c3, c4, c5, e⟩ => ?_
  · rw [cut_mid, hms, List.map_take, List.map_drop]
  · subst e
    obtain ⟨Cq, hCq, rfl⟩ := enumA_at hA
    have hi2 : i < ms.length := by
      have := (List.getElem?_eq_some_iff.mp hCq).1
      rw [List.length_map, List.length_map] at this
      exact this
    rw [List.getElem?_map, List.getElem?_map, List.getElem?_eq_getElem hi2] at hCq
    cases hCq
    have hz : ms.zipIdx[i]? = some (ms[i], i) := by rw [List.getElem?_zipIdx, List.getElem?_eq_getElem hi2]; simp
    have es : st (i + 1) = (st i).set (i % 2) ((st i).getD (i % 2) 0 + ms[i] * ((i : Int) + 2)) := by
      show (ms.zipIdx.take (i + 1)).foldl _ c0 = _
      rw [List.take_add_one, hz, List.foldl_append]
      rfl
    have hl2 : (st i).length = 2 := (stl i).trans (c2 i hi2)
    have i61 : i < 61 := by
      rw [hms, List.length_take] at hi2
      omega
    have him : i % 2 < (st i).length := by omega
    refine ⟨_, _, jg_TA rfl (jga_cons (jg_name 3 c_cells.nd) (jga_cons (jg_name 4 c_cells.nd) jga_nil)), ?_⟩
    refine jb_set (A := aI ((i % 2 : Nat) : Int)) 5 c_cells.nd (JE.eq (je_mod (je_intI m3 (je_v 3)) (je_v 1) (by decide)) (congrArg PyData.int (show ((i : Nat) : Int) % 2 = ((i % 2 : Nat) : Int) by omega))) ?_
    let δw : DSt := δi (st i) (some (.val (aI (i : Nat)))) (some (.val (aI ms[i]))) (some (.val (aI ((i % 2 : Nat) : Int))))
    refine jb_cons (M := fun d => i + 1 ≤ ms.length ∧ ∃ c3 c4 c5, d = δi (st (i + 1)) c3 c4 c5) (js_putO (δ1 := δw) (ds := (st i).map .int) (d := .int ((st i).getD (i % 2) 0 + ms[i] * ((i : Int) + 2))) (m := i % 2) 2 (je_add (δ1 := δw) (i := (st i).getD (i % 2) 0) (je_ixO (ds := (st i).map .int) (d := .int ((st i).getD (i % 2) 0)) 2 rfl (je_v 5) (atI_nat (j := i % 2) ?_)) (je_mulS (je_v 4) (je_add (je_v 3) je_int) (.inr ⟨by omega, by omega⟩))) rfl (je_v 5) ?_ ⟨hi2, some (.val (aI (i : Nat))), some (.val (aI ms[i])), some (.val (aI ((i % 2 : Nat) : Int))), ?_⟩) fun δ' h => jb_nil h
    · rw [List.getElem?_map, List.getElem?_eq_getElem him, List.getD_eq_getElem?_getD, List.getElem?_eq_getElem him]
      rfl
    · unfold ixN
      rw [List.length_map, if_pos (by omega), if_pos (by omega)]
      congr 1
    · rw [es]
      show _ = ([_, _, some (.mut (mL (((st i).set (i % 2) _).map .int))), _, _, _] : DSt)
      rw [List.map_set]
      rfl
  · rw [e, enumA_len, List.length_map, List.length_map]
  · subst e
    refine jb_frz (ds := (st ms.length).map .int) 2 rfl ?_
    have et : st ms.length = cellsM ns := by
      show (ms.zipIdx.take ms.length).foldl _ c0 = cellsF _ _
      rw [List.take_of_length_le (by rw [List.length_zipIdx]; exact Nat.le_refl _), hc0, hms]
      rfl
    rw [← et]
    exact jb_ret (je_v 2) Ret.same
/-! ### _law_same, on lists of lists of bools -/
inductive Bls : Nat → PyData → Prop
  | bl {n : Nat} (b : Bool) : Bls n (.bool b)
  | lst {n : Nat} {ds : List PyData} : (∀ d ∈ ds, Bls n d) → Bls (n + 1) (.list ds)
abbrev s_same : Stmt := topS 59
abbrev N_same : List Str := ["_law_got", "_law_due", "_law_mine", "_law_its", "_law_lot_so"]
theorem c_same : FnScope N_same ["_law_got", "_law_due"] (defScope s_same) := ⟨rfl, rfl, rfl, by decide +kernel, rfl, by decide +kernel, by decide +kernel⟩
def R_same (n : Nat) : Rl := fun As Z => ∃ d, Bls n d ∧ As = [aD d, aD d] ∧ Z = aB true
theorem f_same (F : Fun K "_law_same" "_law_same" s_same f fd) (g : mg "_law_same" = some (.ref f)) (kp : PySem.W.keepIn K (.ref f) = true) (bd : Binds K fd ["_law_got", "_law_due"] []) (m1 : mg "isinstance" = none) (m2 : mg "list" = none) (m3 : mg "tuple" = none) (m4 : mg "dict" = none) (m5 : mg "bool" = none) (m6 : mg "str" = none) (m7 : mg "len" = none) (m8 : mg "all" = none) (m9 : mg "zip" = none) :
    ∀ n, FnOk P w K mg base CX0 (k + n + 1) f fd ["_law_got", "_law_due"] (spJ (R_same n)) := by
  have hbl : ∀ (j n : Nat) (b : Bool) (cdv : Value) (A0 : Around) (outer : List PySem.Env) (s : Shared) (H0 : Hp) (E : XK), JB (cxOf CX0 P w K mg base N_same "_law_same" (defScope s_same) f cdv A0 outer s H0 E).nox (defBody s_same) (d0 N_same [aD (.bool b), aD (.bool b)]) (Ret (aB true)) := fun j n b cdv A0 outer s H0 E => by
    refine jb_ifR (p := false) (JT.eq (jt_val (je_isi2 (r1 := false) (r2 := false) m1 (je_v 1) (je_ty m2 PyProof.Rows.boot_list) (je_ty m3 PyProof.Rows.boot_tuple) rfl rfl)) rfl) (fun z => by cases z) fun _ => ?_
    refine jb_ifR (p := false) (jt_val (je_isi m1 (je_v 1) (je_ty (n := "dict") m4 (by decide +kernel)) rfl)) (fun z => by cases z) fun _ => ?_
    refine jb_ifR (p := true) (jt_w (jw_or (p := false) (q := true) (JT.eq (jt_is (je_v 1)) rfl) fun _ => jw_or1 (JT.eq (jt_val (je_isi2 (r1 := true) (r2 := false) m1 (je_v 1) (je_ty m5 PyProof.Rows.boot_bool) (je_ty m6 PyProof.Rows.boot_str) rfl rfl)) rfl))) (fun _ => ?_) fun z => by cases z
    exact jb_ret (je_and (p := true) (q := true) (JE.eq (je_eqB (je_v 0) (je_v 1)) (by simp)) fun _ => je_and (p := true) (q := true) (JE.eq (je_eqB (je_isi (r := true) m1 (je_v 0) (je_ty m5 PyProof.Rows.boot_bool) rfl) (je_isi (r := true) m1 (je_v 1) (je_ty m5 PyProof.Rows.boot_bool) rfl)) rfl) fun _ => je_one (JE.eq (je_eqB (je_is (je_v 0)) (je_is (je_v 1))) rfl)) Ret.same
  intro n
  induction n with
  | zero =>
    refine fn_j F c_same (fun As Z ⟨_, _, e, _⟩ => by rw [e]; rfl) fun cdv A0 outer s H0 E As Z hr ⟨d, hd, e1, e2⟩ => ?_
    subst e1 e2
    cases hd with
    | bl b => exact hbl k 0 b cdv A0 outer s H0 E
  | succ n ih =>
    have C0 : Cal P w K mg base (k + n + 1) "_law_same" (R_same n) := ⟨f, fd, _, ih, g, kp, bd⟩
    refine fn_j F c_same (fun As Z ⟨_, _, e, _⟩ => by rw [e]; rfl) fun cdv A0 outer s H0 E As Z hr ⟨d, hd, e1, e2⟩ => ?_
    subst e1 e2
    cases hd with
    | bl b => exact hbl (k + n) (n + 1) b cdv A0 outer s H0 E
    | @lst _ ds h =>
      refine jb_ifR (p := true) (JT.eq (jt_val (je_isi2 (r1 := true) (r2 := false) m1 (je_v 1) (je_ty m2 PyProof.Rows.boot_list) (je_ty m3 PyProof.Rows.boot_tuple) rfl rfl)) rfl) (fun _ => ?_) fun z => by cases z
      refine jb_ifR (p := false) (jt_w (jw_or (p := false) (q := false) (jt_cmp op_ne rop_neB (je_isi (r := true) m1 (je_v 0) (je_ty m2 PyProof.Rows.boot_list) rfl) (je_isi (r := true) m1 (je_v 1) (je_ty m2 PyProof.Rows.boot_list) rfl)) fun _ => jw_or1 (jt_cmp op_ne rop_neB (je_isi (r := false) m1 (je_v 0) (je_ty m3 PyProof.Rows.boot_tuple) rfl) (je_isi (r := false) m1 (je_v 1) (je_ty m3 PyProof.Rows.boot_tuple) rfl)))) (fun z => by cases z) fun _ => ?_
      refine jb_ret (je_and (p := true) (q := true) (JE.eq (je_eqI (je_lenL m7 (je_v 0)) (je_lenL m7 (je_v 1))) (by simp)) fun _ => je_one (JE.eq (je_allC (xs := ds.zip ds) (b := fun _ => true) m8 rfl (jn_t2 2 3 (ds.zip ds) (·.1) (·.2) (fun _ => .bool true) (ji_zip m9 (je_v 0) (je_v 1)) (blkOk_by (N := N_same) (sc := defScope s_same) (by decide +kernel)) (fun q hq _ _ _ _ _ => ?_) rfl c_same.nd)) ?_)) Ret.same
      · have hq2 : q.1 = q.2 ∧ q.1 ∈ ds := by
          obtain ⟨i, hi, e⟩ := List.getElem_of_mem hq
          rw [List.getElem_zip] at e
          rw [← e]
          exact ⟨rfl, List.getElem_mem _⟩
        exact je_call C0 hr (Nat.le_refl _) (ja_cons (je_v 2) (ja_cons (je_v 3) ja_nil)) ⟨q.1, h q.1 hq2.2, by rw [hq2.1], rfl⟩
      · congr 1
        rw [List.all_eq_true]
        exact fun _ _ => rfl
/-! ### _law_right -/
def stepM (t : Tin) : Tin := (drawnM (webM t).1.m (takeM (webM t).2 3).2).2
def rightM : Nat → Tin → Tin
  | 0, t => t
  | n + 1, t => stepM (rightM n t)
theorem step_ok {t : Tin} {m : Int} (h : t.Ok (m + 34)) (hm : 0 ≤ m) : (stepM t).Ok m := drawn_tin (web_ok t).1.m5 (take_ok (m := m + 17) ((web_tin (m := m + 18) (h.mono (by omega)) (by omega)).mono (by omega)) (by omega)) hm
theorem right_ok {t : Tin} : ∀ (n : Nat) (m : Int), t.Ok (m + 34 * n) → 0 ≤ m → (rightM n t).Ok m
  | 0, m, h, _ => h.mono (by omega)
  | n + 1, m, h, hm => step_ok (right_ok n (m + 34) (h.mono (by omega)) (by omega)) hm
theorem linP : Lin ltP := ⟨fun x y h1 h2 => by
  obtain ⟨a, b⟩ := x
  obtain ⟨c, d⟩ := y
  unfold ltP at h1 h2
  dsimp only at h1 h2
  by_cases q : a < c
  · simp [q] at h1
  · by_cases q2 : c < a
    · simp [q2] at h2
    · simp only [q, q2, if_false, decide_eq_false_iff_not] at h1 h2
      have : a = c := by omega
      have : b = d := by omega
      subst_vars
      rfl, fun x y h => by
  obtain ⟨a, b⟩ := x
  obtain ⟨c, d⟩ := y
  unfold ltP at h ⊢
  dsimp only at h ⊢
  by_cases q : a < c
  · rw [if_neg (by omega), if_pos q]
  · rw [if_neg q] at h
    by_cases q2 : c < a
    · rw [if_pos q2] at h; cases h
    · rw [if_neg q2] at h
      rw [if_neg q2, if_neg q]
      have := of_decide_eq_true h
      exact decide_eq_false (by omega), fun x y z h1 h2 => by
  obtain ⟨a, b⟩ := x
  obtain ⟨c, d⟩ := y
  obtain ⟨e, f⟩ := z
  unfold ltP at h1 h2 ⊢
  dsimp only at h1 h2 ⊢
  by_cases q : a < c
  · by_cases q2 : c < e
    · rw [if_pos (by omega)]
    · rw [if_neg q2] at h2
      by_cases q3 : e < c
      · rw [if_pos q3] at h2; cases h2
      · rw [if_pos (by omega)]
  · rw [if_neg q] at h1
    by_cases q1 : c < a
    · rw [if_pos q1] at h1; cases h1
    · rw [if_neg q1] at h1
      have e1 := of_decide_eq_true h1
      by_cases q2 : c < e
      · rw [if_pos (by omega)]
      · rw [if_neg q2] at h2
        by_cases q3 : e < c
        · rw [if_pos q3] at h2; cases h2
        · rw [if_neg q3] at h2
          have e2 := of_decide_eq_true h2
          rw [if_neg (by omega), if_neg (by omega)]
          exact decide_eq_true (by omega)⟩
theorem pairs_asc : ∀ m, m ≤ 5 → (pairsN m m).Pairwise fun a b => ltP a b = true := by decide +kernel
/-- the moves of a drawn chart are some of all pairs, in order -/
theorem web_subs (t : Tin) : (webM t).1.ti ∈ subs (pairsN (webM t).1.m (webM t).1.m) := by
  obtain ⟨w1, w5⟩ := web_m t
  obtain ⟨l, hl⟩ : ∃ l, l = (pickM (webS t).s (webS t).t5 (pairsN (webS t).m (webS t).m) []).1 := ⟨_, rfl⟩
  have pm := pick_mem (webS t).s (webS t).t5 (pairsN (webS t).m (webS t).m) []
  rw [← hl] at pm
  have nd := pm.2 (by simpa using pairs_nd _ w5)
  have et : (webM t).1.ti = sortT l := by rw [hl]; rfl
  have em : (webM t).1.m = (webS t).m := rfl
  rw [et, em]
  have sp := sortT_perm l
  have a1 : (sortT l).Pairwise fun a b => ltP a b = true := by
    have h1 : (sortT l).Pairwise fun a b => (!ltP b a) = true := List.pairwise_mergeSort (le := fun a b => !ltP b a) (fun a b c h1 h2 => by
      simp only [Bool.not_eq_true'] at h1 h2 ⊢
      cases q : ltP c a with
      | false => rfl
      | true =>
        exfalso
        cases q2 : ltP a b with
        | true =>
          rw [linP.tr _ _ _ q q2] at h2
          cases h2
        | false =>
          have e : a = b := linP.tri a b q2 h1
          subst e
          rw [q] at h2
          cases h2) (fun a b => by
      cases q : ltP b a with
      | false => rfl
      | true => rw [linP.asy _ _ q]; rfl) l
    have h2 : (sortT l).Nodup := sp.nodup_iff.mpr nd
    refine (h1.and h2).imp fun {a b} ⟨p, q⟩ => ?_
    cases r : ltP a b with
    | true => rfl
    | false => exact absurd (linP.tri a b r (by simpa using p)) q
  have a2 := (pairs_asc _ w5).filter (fun p => decide (p ∈ l))
  have e := asc_one linP a1 a2 fun z => by
    rw [List.mem_filter, decide_eq_true_eq]
    constructor
    · intro h
      have hz := sp.mem_iff.mp h
      rcases pm.1 z hz with w | w
      · cases w
      · exact ⟨w, hz⟩
    · exact fun h => sp.mem_iff.mpr h.2
  rw [e]
  exact filter_subs _ _
abbrev s_right : Stmt := topS 66
abbrev N_right : List Str := ["_law_tin", "_law_turn"]
theorem c_right : FnScope N_right ["_law_tin"] (defScope s_right) := ⟨rfl, rfl, rfl, by decide +kernel, rfl, by decide +kernel, by decide +kernel⟩
def R_right (P0 : Addr) : RlM := fun M M' As Z => ∃ (a : Addr) (T : List Addr) (t : Tin), P0 ∈ T ∧ t.Ok 300 ∧ M = mTin a T t ∧ M' = mTin a T (rightM 6 t) ∧ As = [] ∧ Z = some (aB true)
theorem f_right {C : Value} {P0 : Addr} (F : Fun K "_law_right" "_law_right" s_right f fd) (C1 : CalM CX0 P w K mg base k "_law_case_right" C (R_case nmS P0)) (C2 : CalM CX0 P w K mg base k "_law_web" C R_web) (C3 : CalM CX0 P w K mg base k "_law_take" C R_take) (m1 : mg "range" = none) : FnOk P w K mg base CX0 (k + 1) f fd ["_law_tin"] (spM C (R_right P0)) := by
  refine fn_jM F c_right (fun M M' As Z ⟨a, T, t, _, _, e1, e2, e3, e4⟩ => ⟨by rw [e3]; rfl, by rw [e4]; exact (fun z => nomatch z), by rw [e2, e1]; exact mTin_prec⟩) fun cdv A outer s0 H0 E M M' As Z hr ⟨a, T, t, hP, tok, e1, e2, e3, e4⟩ => ?_
  subst e2 e1 e3
  cases e4
  let δi : Tin → Option Cell → DSt := fun t c1 => [some (.mut (mTin a T t)), c1]
  refine jb_cons (M := fun d => ∃ c1, d = δi (rightM 6 t) c1) (js_for (I := fun i d => i ≤ 6 ∧ ∃ c1, d = δi (rightM i t) c1) (ji_range (n := 6) m1 je_int ⟨by decide, by decide⟩) PassesOwn.never rfl ⟨Nat.zero_le _, none, rfl⟩ (fun i A' δ' hA ⟨hi, c1, e⟩ => ?_) (fun δ' ⟨_, c1, e⟩ => ⟨c1, ?_⟩)) fun δ' ⟨c1, e⟩ => ?_
  · subst e
    have hi2 : i < 6 := by
      have := (List.getElem?_eq_some_iff.mp hA).1
      simp at this
      exact this
    refine ⟨_, _, jg_name 1 c_right.nd, ?_⟩
    obtain ⟨u, hu⟩ : ∃ u, u = rightM i t := ⟨_, rfl⟩
    have uok : u.Ok 34 := by
      rw [hu]
      exact right_ok i 34 (tok.mono (by omega)) (by omega)
    rw [← hu]
    have wt : (webM u).2.Ok 18 := web_tin (m := 18) (uok.mono (by omega)) (by omega)
    obtain ⟨q1, q2⟩ := take_rng (webM u).2 (n := 3) (by decide)
    obtain ⟨j, hj⟩ : ∃ j : Nat, (takeM (webM u).2 3).1 = (j : Int) := ⟨(takeM (webM u).2 3).1.toNat, by omega⟩
    have t3ok : (takeM (webM u).2 3).2.Ok 17 := take_ok (m := 17) wt (by omega)
    obtain ⟨wo1, wo2⟩ := web_ok u
    let δw : Tin → DSt := fun t => δi t (some (.val A'))
    refine jb_cons (M := fun d => i + 1 ≤ 6 ∧ ∃ c1, d = δi (rightM (i + 1) t) c1) (js_if (p := false) (δ1 := δw (stepM u)) (jt_not (p := true) (jt_val (je_callM (As := [aD (dCh nmS (webM u).1), aI (j : Int)]) (M0 := mTin a T u) (M := mTin a T (takeM (webM u).2 3).2) (M' := mTin a T (stepM u)) (δ1 := δw (takeM (webM u).2 3).2) 0 C1 hr (Nat.le_refl _) (ja_cons (je_callM (As := [aI 5, aI 1, aI 2, aI 7]) (M := mTin a T u) (M' := mTin a T (webM u).2) 0 C2 hr (Nat.le_refl _) (ja_cons je_int (ja_cons je_int (ja_cons je_int (ja_cons je_int ja_nil)))) rfl rfl ⟨a, T, u, uok.mono (by omega), rfl, rfl, rfl, rfl⟩) (ja_cons (JE.eq (je_callM (As := [aI 3]) (M := mTin a T (webM u).2) (M' := mTin a T (takeM (webM u).2 3).2) (Z := aI (takeM (webM u).2 3).1) 0 C3 hr (Nat.le_refl _) (ja_cons je_int ja_nil) rfl rfl ⟨a, T, (webM u).2, 3, rfl, rfl, rfl, rfl, wt.mono (by omega), by decide, by decide⟩) (congrArg PyData.int hj)) ja_nil)) rfl rfl ⟨a, T, (takeM (webM u).2 3).2, (webM u).1, j, hP, wo1, wo2, web_subs u, by omega, t3ok, rfl, rfl, rfl, rfl⟩))) (fun z => by cases z) fun _ => jb_nil ⟨hi2, some (.val A'), ?_⟩) fun δ' h => jb_nil h
    show δw (stepM u) = δi (rightM (i + 1) t) _
    have : rightM (i + 1) t = stepM u := by rw [hu]; rfl
    rw [this]
  · rw [e]
    simp
  · subst e
    exact jb_ret je_bl (fun _ _ h => h) rfl
end
end J
/-! _law_by_hand_right. -/
namespace J
open PySem PySem.Spec L2
def sqT : List (Nat × Nat) := [(0, 1), (0, 3), (1, 2), (2, 3)]
def wdT (l : List (List Int)) (n : Nat) (i : Nat) : List Int := if i < l.length then l.getD i [] else List.replicate n 0
def chS (ti : List (Nat × Nat)) : Ch := ⟨4, [2, 2], wdT [[0, 0], [0, 1], [1, 1], [1, 0]] 2, ti⟩
def hw : List ((Nat → Str) × Ch) := [(nmL, chS sqT), (nmL, chS [(0, 1), (0, 2), (0, 3), (1, 2), (2, 3)]), (nmL, chS [(0, 1), (0, 3), (1, 2)]), (nmL, ⟨1, [2], wdT [[0]] 1, []⟩), (nmP, ⟨2, [5], wdT [[3], [3]] 1, [(0, 1)]⟩), (nmL, chS [])]
def encW (w : (Nat → Str) × Ch) : PyData := dCh w.1 w.2
theorem wdT_len {l : List (List Int)} {n : Nat} (h : l.all (fun w => decide (w.length = n)) = true) (i : Nat) : (wdT l n i).length = n := by
  unfold wdT
  split
  · rename_i q
    rw [List.getD_eq_getElem?_getD, List.getElem?_eq_getElem q]
    exact of_decide_eq_true (List.all_eq_true.mp h _ (List.getElem_mem q))
  · exact List.length_replicate ..
theorem hw_num : (hw.all fun w => decide (1 ≤ w.2.m ∧ w.2.m ≤ 5 ∧ w.2.sz.length ≤ 20 ∧ (∀ p ∈ w.2.ti, p.1 < p.2 ∧ p.2 < w.2.m) ∧ w.2.ti.Nodup ∧ w.2.ti.length ≤ 20 ∧ w.2.ti ∈ subs (pairsN w.2.m w.2.m))) = true := by decide +kernel
theorem hw_ok : ∀ w ∈ hw, w.2.Ok ∧ w.2.ti.length ≤ 20 ∧ w.2.ti ∈ subs (pairsN w.2.m w.2.m) ∧ (w.1 = nmL ∨ w.1 = nmP) := fun w hw' => by
  obtain ⟨h1, h2, h3, h4, h5, h6, h7⟩ := of_decide_eq_true (List.all_eq_true.mp hw_num w hw')
  refine ⟨⟨h1, h2, h3, fun i => ?_, h4, h5⟩, h6, h7, ?_⟩
  · simp only [hw, List.mem_cons, List.not_mem_nil, or_false] at hw'
    rcases hw' with rfl | rfl | rfl | rfl | rfl | rfl <;> exact wdT_len rfl i
  · simp only [hw, List.mem_cons, List.not_mem_nil, or_false] at hw'
    rcases hw' with rfl | rfl | rfl | rfl | rfl | rfl
    · exact .inl rfl
    · exact .inl rfl
    · exact .inl rfl
    · exact .inl rfl
    · exact .inr rfl
    · exact .inl rfl
def dueH : List (List Bool) := [[true, true, false], [true, false, false], [true, true, true], [true, true, true], [true, true, true], [true, true, true]]
theorem hw_due : (hw.map fun w => (List.range 3).map fun k => (mfamM (w.2.evs k) (k + 1)).isNone) = dueH := by decide +kernel
def dBs (l : List Bool) : PyData := .list (l.map .bool)
section
variable {X : Cx} {δ δ1 δ2 : DSt} {a b : Expr} {pos : Pos} {ds : List PyData} {i : Int}
theorem jl_cons {e : Expr} {es : List Expr} {A : AV} {As : List AV} (h1 : JE X e δ δ A) (h2 : JA X es δ δ As) (hs : starEach (e :: es) X.env = (false, eval e X.env) :: starEach es X.env := by rfl) : JA X (e :: es) δ δ (A :: As) := ja_cons h1 h2 hs
theorem dd_rep {B : Hp} {vs : List V} (h : DdAll B vs ds) : ∀ n, DdAll B (List.replicate n vs).flatten (List.replicate n ds).flatten
  | 0 => .nil
  | n + 1 => by
    rw [List.replicate_succ, List.replicate_succ, List.flatten_cons, List.flatten_cons]
    exact h.append (dd_rep h n)
theorem je_repL (ha : JE X a δ δ1 (aD (.list ds))) (hb : JE X b δ1 δ2 (aI i)) (h1 : -(2 ^ 63) ≤ i ∧ i < 2 ^ 63) (hl : (List.replicate i.toNat ds).flatten.length ≤ sizeLine) : JE X (.BinOp a .Mult b pos) δ δ2 (aD (.list (List.replicate i.toNat ds).flatten)) :=
  je_op op_rep (fun B H u v Q s h2 h3 q => by
    obtain ⟨a, xs, rfl, e2, l1, e3⟩ := Dd.lst_eq h2
    refine ⟨a, i, xs, rfl, Dd.int_eq h3, s _ _ e2, h1.1, h1.2, ?_, fun p hp => ?_⟩
    · rw [List.length_flatten, List.map_replicate, List.sum_replicate_nat] at hl
      rw [e3.len, Nat.mul_comm]
      exact hl
    · have sB := same_upd (o := .lst (List.replicate i.toNat xs).flatten) (s.free hp)
      exact q _ _ _ (Gro.one hp) (.lst upd_same hl (DdAll.mono sB _ _ (dd_rep e3 _)))) ha hb
end
section
variable {P : Program} {w : World} {K : PySem.W.Frag} {mg : Str → Option Value} {base : Heap} {f : Addr} {fd : FuncData} {k : Nat}
abbrev s_hand : Stmt := topS 65
abbrev N_hand : List Str := ["_law_tin", "_law_square", "_law_webs_so", "_law_far", "_law_web_here"]
theorem c_hand : FnScope N_hand [] (defScope s_hand) := ⟨rfl, rfl, rfl, by decide +kernel, rfl, by decide +kernel, by decide +kernel⟩
/-- true handed back, the source still there -/
def OutT (a : Addr) (T : List Addr) : Out := { rt := fun A => ∀ B v, A.p B v → (aB true).p B v, rk := fun δ => ∃ t, δ[0]? = some (some (.mut (mTin a T t))) }
def t00 : Tin := ⟨10 ^ 30 + 7, 1, 0⟩
def tTop (N : List Str) (P0 : Addr) : TS := fun D σ H => ∃ B T, Env (rest B H) B H σ (d0 N []) ∧ P0 ∈ T ∧ TabG B H T ∧ Own1 B H T ∧
  ∀ v B' H', Same B B' → Same B' H' → KeepR B H T B' H' → TabG B' H' T → Own1 B' H' T → (aB true).p B' v → D.rt v H'
theorem pss_tin {X : Cx} {P0 : Addr} {e : Expr} {x : Str} {pos pos' : Pos} {sts : List Stmt} (he : JN X e (d0 X.N []) (d0 X.N []) (isL [.int t00.g, .int t00.k, .int t00.c])) (hN : X.N.Nodup) (hi : X.N[0]? = some x) (hx : Loc X.env.scope x) (hs : swapsWith e (some (.Name x pos')) pos.line X.env = pure false) (hf : X.fn x = true ∨ X.env.scope.names.lookup x = some .local)
    (body : ∀ a T, P0 ∈ T → JB X sts ((d0 X.N []).set 0 (some (.mut (mTin a T t00)))) (OutT a T)) : PSs X (.Assign [.Name x pos'] e pos :: sts) (tTop X.N P0) :=
  PSs.imp (pss_cons (ps_set hN hi hx he hs hf) pb_any) fun D σ H ⟨B, T, E, hP, tg, ow, q⟩ => ⟨rest B H, B, E, fun p o B1 H1 f E1 s1 ⟨vs, eo, dv, hl⟩ => by
    have ev : vs = t00.ds := by
      cases dv with
      | cons r1 t1 => cases t1 with
        | cons r2 t2 => cases t2 with
          | cons r3 t3 =>
            cases t3
            rw [Dd.int_eq r1, Dd.int_eq r2, Dd.int_eq r3]
            rfl
    subst eo ev
    have rT : ∀ a ∈ T, ∃ o, H a = some o ∧ rest B H a = some o ∧ a ≠ p := fun a ha => by
      obtain ⟨q1, q2, q3⟩ := ow a ha
      cases z : H a with
      | none => exact absurd z q2
      | some o =>
        have r := rest_of z q1
        exact ⟨o, rfl, r, fun w => by rw [w, f] at r; cases r⟩
    have gr : Grab (restR B H T) (upd (rest B H) p (.lst t00.ds)) (p :: T) := ⟨fun a n => by
      have n1 : a ≠ p := fun z => n (by rw [z]; exact List.mem_cons_self)
      have n2 : a ∉ T := fun z => n (List.mem_cons_of_mem _ z)
      rw [upd_ne n1]
      unfold restR
      rw [if_neg n2], fun a ha => by
      rcases List.mem_cons.mp ha with z | z
      · subst z
        refine ⟨?_, _, upd_same⟩
        unfold restR
        split
        · rfl
        · exact f
      · obtain ⟨o, h1, h2, h3⟩ := rT a z
        refine ⟨?_, o, by rw [upd_ne h3]; exact h2⟩
        unfold restR
        rw [if_pos z]⟩
    have at1 : ∀ a ∈ T, H1 a = H a := fun a ha => by
      obtain ⟨o, h1, h2, h3⟩ := rT a ha
      rw [h1]
      exact (E1.fr a o (by rw [upd_ne h3]; exact h2)).1
    have E2 := E1.take gr (v := .ref p) (c := .mut (mTin p T t00)) ⟨rfl, rfl, (E1.fr p _ upd_same).1, tg.mono s1 at1⟩ 0
    refine ⟨_, OutT p T, body p T hP, restR B H T, B1, E2, fun _ _ _ _ z => z.elim, fun A v B2 H2 hr ⟨σ3, δ3, ⟨t3, h3⟩, E3⟩ s2 a2 => ?_, fun _ _ _ _ z => z.elim, fun _ _ _ _ z => z.elim⟩
    obtain ⟨Rg, e3⟩ := id E3
    obtain ⟨u, z1, z2⟩ := e3.sl 0 _ h3
    obtain ⟨_, hR, _, tg2⟩ := z2
    exact q v B2 H2 (s1.trans s2) E3.bh (fun a o h1 h2 h4 => E3.fr a o (restR_of h1 h2 h4)) tg2 (fun a ha => by
      have ha0 : a ∈ Rg 0 := by rw [hR]; exact List.mem_cons_of_mem _ ha
      exact ⟨(e3.rg 0 a ha0).1, (e3.rg 0 a ha0).2.1, fun xs => e3.rt 0 a xs ha0⟩) (hr B2 v a2)⟩
theorem f_hand {C : Value} {P0 : Addr} (F : Fun K "_law_by_hand_right" "_law_by_hand_right" s_hand f fd) (C1 : ∀ nm, nm = nmL ∨ nm = nmP → Cal P w K mg base k "has_bits" (R_hasb nm)) (C2 : ∀ nm, nm = nmL ∨ nm = nmP → CalM CX0 P w K mg base k "_law_case_right" C (R_case nm P0)) (C3 : Cal P w K mg base k "_law_same" (R_same 2)) (m1 : mg "range" = none) (m2 : mg "all" = none) : FnOk P w K mg base CX0 (k + 1) f fd [] (spT P0 (aB true)) := by
  refine F.ok c_hand (fun vs H Q E ⟨B, T, e, _⟩ => by rw [e]; rfl) fun cdv A outer s H vs Q E hr ⟨B, T, e, sB, hP, tg, ow, q⟩ => ?_
  subst e
  refine ⟨_, pss_tin (X := (cxOf CX0 P w K mg base N_hand "_law_by_hand_right" (defScope s_hand) f cdv A outer s H E).nox) (P0 := P0) (jn_lst (ja_cons (je_add (je_pow je_int je_int ⟨by decide, by decide, by decide⟩) je_int) (ja_cons je_int (ja_cons je_int ja_nil)))) c_hand.nd rfl (by first | exact .inl rfl | exact .inr rfl) rfl (by first | exact .inl rfl | exact .inr rfl) (fun a T hP => ?_), B, T, env_start sB .nil, hP, tg, ow, fun v B' H' s1 s2 k1 t1 o1 z => q v B' H' s1 s2 k1 t1 o1 z⟩
  let sq : List PyData := [dW [2, 2], .tuple (dSs nmL (chS [])), dMs nmL (chS sqT)]
  let δi : Tin → Option Cell → Option Cell → Option Cell → DSt := fun t c2 c3 c4 => [some (.mut (mTin a T t)), some (.val (aD (.tuple sq))), c2, c3, c4]
  refine jb_set (A := aD (.tuple sq)) 1 c_hand.nd (je_tup (ds := sq) (jl_cons (je_tup (ds := [.int 2, .int 2]) (jl_cons je_int (jl_cons je_int ja_nil))) (jl_cons (je_tup (ds := dSs nmL (chS [])) ?_ (small (by decide))) (jl_cons (je_tup (ds := sqT.map (dM nmL)) ?_ (small (by decide))) ja_nil))) (small (by decide))) ?_
  · repeat' first | exact ja_nil | exact je_int | exact je_bl | exact JE.eq je_str rfl | refine jl_cons ?_ ?_ | refine je_tup ?_ (small (by decide))
  · repeat' first | exact ja_nil | exact je_int | exact je_bl | exact JE.eq je_str rfl | refine jl_cons ?_ ?_ | refine je_tup ?_ (small (by decide))
  let δ2 : DSt := δi t00 none none none
  refine jb_set (δ1 := δ2) (A := aD (.list ((hw.take 3).map encW))) 2 c_hand.nd (je_lst (ds := (hw.take 3).map encW) (hl := small (by decide)) (jl_cons (JE.eq (je_v (A := aD (.tuple sq)) 1) rfl) (jl_cons (je_tup (ds := [dW [2, 2], .tuple (dSs nmL (chS [])), dMs nmL (chS [(0, 1), (0, 2), (0, 3), (1, 2), (2, 3)])]) (jl_cons (je_ixT (ds := sq) (je_v 1) je_int rfl) (jl_cons (je_ixT (ds := sq) (je_v 1) je_int rfl) (jl_cons (JE.eq (je_addT (ds := ([(0, 1), (0, 2)] : List (Nat × Nat)).map (dM nmL)) (es := (sqT.drop 1).map (dM nmL)) (je_tup ?_ (small (by decide))) (JE.eq (je_slT (ds := sqT.map (dM nmL)) (je_ixT (ds := sq) (je_v 1) je_int rfl) (jo_some je_int) jo_none) ?_) (small (by decide))) ?_) ja_nil)))) (jl_cons (je_tup (ds := [dW [2, 2], .tuple (dSs nmL (chS [])), dMs nmL (chS [(0, 1), (0, 3), (1, 2)])]) (jl_cons (je_ixT (ds := sq) (je_v 1) je_int rfl) (jl_cons (je_ixT (ds := sq) (je_v 1) je_int rfl) (jl_cons (JE.eq (je_slT (ds := sqT.map (dM nmL)) (je_ixT (ds := sq) (je_v 1) je_int rfl) jo_none (jo_some je_int)) ?_) ja_nil)))) ja_nil)))) ?_
  · repeat' first | exact ja_nil | exact je_int | exact je_bl | exact JE.eq je_str rfl | refine jl_cons ?_ ?_ | refine je_tup ?_ (small (by decide))
  · rfl
  · rfl
  · rfl
  let δ3 : DSt := δi t00 (some (.val (aD (.list ((hw.take 3).map encW))))) none none
  refine jb_set (δ1 := δ3) (A := aD (.list (hw.map encW))) 2 c_hand.nd (JE.eq (je_addL (ds := (hw.take 3).map encW) (es := (hw.drop 3).map encW) (je_v 2) (je_lst (jl_cons (je_tup (ds := [dW [2], .tuple (dSs nmL ⟨1, [2], wdT [[0]] 1, []⟩), .tuple []]) ?_) (jl_cons (je_tup (ds := [dW [5], .tuple (dSs nmP ⟨2, [5], wdT [[3], [3]] 1, []⟩), dMs nmP ⟨2, [5], wdT [[3], [3]] 1, [(0, 1)]⟩]) ?_) (jl_cons (je_tup (ds := [dW [2, 2], .tuple (dSs nmL (chS [])), .tuple []]) (jl_cons (je_ixT (ds := sq) (je_v 1) je_int rfl) (jl_cons (je_ixT (ds := sq) (je_v 1) je_int rfl) (jl_cons (je_tup ja_nil) ja_nil)))) ja_nil))) (small (by decide))) (small (by decide))) rfl) ?_
  · repeat' first | exact ja_nil | exact je_int | exact je_bl | exact JE.eq je_str rfl | refine jl_cons ?_ ?_ | refine je_tup ?_ (small (by decide))
  · repeat' first | exact ja_nil | exact je_int | exact je_bl | exact JE.eq je_str rfl | refine jl_cons ?_ ?_ | refine je_tup ?_ (small (by decide))
  let δ4 : Tin → Option Cell → Option Cell → DSt := fun t c3 c4 => δi t (some (.val (aD (.list (hw.map encW))))) c3 c4
  let δ4 : Tin → Option Cell → Option Cell → DSt := fun t c3 c4 => δi t (some (.val (aD (.list (hw.map encW))))) c3 c4
  refine jb_ifR (p := false) (δ1 := δ4 t00 none none) (jt_not (p := true) (jt_val (je_call (δ1 := δ4 t00 none none) (As := [aD (.list (hw.map fun w => dBs ((List.range 3).map fun k => (mfamM (w.2.evs k) (k + 1)).isNone))), aD (.list (dueH.map dBs))]) C3 hr (Nat.le_refl _) (jl_cons (JN.dat (jn_m (δ1 := δ4 t00 none none) 4 hw encW (fun w => dBs ((List.range 3).map fun k => (mfamM (w.2.evs k) (k + 1)).isNone)) (ji_L (je_v 2)) (blkOk_by (N := N_hand) (sc := defScope s_hand) (by decide +kernel)) (fun x hx _ _ _ _ _ => ?_) rfl c_hand.nd)) (jl_cons (je_lst (ds := dueH.map dBs) ?_ (small (by decide))) ja_nil)) ⟨_, ?_, rfl, rfl⟩))) (fun z => by cases z) fun _ => ?_
  · obtain ⟨ok, tl, _, nmx⟩ := hw_ok x hx
    refine JE.eq (JN.dat (jn_m 3 (List.range 3) (fun i => PyData.int (i : Int)) (fun k => .bool (mfamM (x.2.evs k) (k + 1)).isNone) (ji_range (n := 3) m1 je_int ⟨by decide, by decide⟩) (blkOk_by (N := N_hand) (sc := relS _ (defScope s_hand)) (by decide +kernel)) (fun i hi _ _ _ _ _ => ?_) rfl c_hand.nd)) ?_
    · have hi3 := List.mem_range.mp hi
      exact je_call (C1 x.1 nmx) hr (Nat.le_refl _) (ja_cons (je_v 4) (ja_cons (je_v 3) ja_nil)) ⟨x.2, i, ok, tl, by omega, rfl, rfl⟩
    · unfold dBs
      rw [List.map_map]
      rfl
  · repeat' first | exact ja_nil | exact je_bl | refine jl_cons ?_ ?_ | refine je_lst ?_ (small (by decide)) | refine JE.eq (je_repL (ds := [.bool true]) (je_lst (jl_cons je_bl ja_nil)) je_int ⟨by decide, by decide⟩ (small (by decide))) rfl
  · refine .lst fun d hd => ?_
    obtain ⟨w', _, rfl⟩ := List.mem_map.mp hd
    refine .lst fun d hd => ?_
    obtain ⟨b, _, rfl⟩ := List.mem_map.mp hd
    exact .bl b
  have hz : ∀ i, i < 6 → ∃ w, hw[i]? = some w ∧ w ∈ hw := fun i hi => by
    have h6 : i < hw.length := hi
    exact ⟨hw[i], List.getElem?_eq_getElem h6, List.getElem_mem h6⟩
  refine jb_cons (M := fun d => ∃ t c3 c4, d = δ4 t c3 c4) (js_for (I := fun i d => ∃ t c3 c4, t.Ok (17 + 51 * (6 - (i : Int))) ∧ d = δ4 t c3 c4) (xs := hw.map fun w => aD (encW w)) (ji_L (xs := hw) (enc := encW) (je_v 2)) PassesOwn.never rfl ⟨t00, none, none, ⟨by decide, by decide, by decide, by decide⟩, rfl⟩ (fun i A' δ' hA ⟨t, c3, c4, tok, e⟩ => ?_) (fun δ' ⟨t, c3, c4, tok, e⟩ => ⟨t, c3, c4, e⟩)) fun δ' ⟨t, c3, c4, e⟩ => ?_
  · subst e
    rw [List.getElem?_map] at hA
    obtain ⟨x, hx, rfl⟩ := Option.map_eq_some_iff.mp hA
    have hi6 : i < 6 := (List.getElem?_eq_some_iff.mp hx).1
    have hm := List.mem_of_getElem? hx
    obtain ⟨ok, tl, tsub, nmx⟩ := hw_ok x hm
    refine ⟨_, _, jg_name 4 c_hand.nd, ?_⟩
    let tn : Nat → Tin := fun n => Nat.rec t (fun _ t => (drawnM x.2.m t).2) n
    have tnok : ∀ n, n ≤ 3 → (tn n).Ok (17 + 51 * (6 - (i : Int)) - 17 * n) := fun n => by
      induction n with
      | zero => exact fun _ => tok.mono (by omega)
      | succ n ih => exact fun hn => drawn_tin ok.m5 ((ih (by omega)).mono (by omega)) (by omega)
    let δw : Nat → DSt := fun n => δ4 (tn n) c3 (some (.val (aD (encW x))))
    let δv : Nat → DSt := fun n => δ4 (tn n) none (some (.val (aD (encW x))))
    let δt : Nat → DSt := fun n => δ4 (tn n) (some (.val (aI (n : Int)))) (some (.val (aD (encW x))))
    refine jb_cons (M := fun d => ∃ t c3 c4, t.Ok (17 + 51 * (6 - ((i + 1 : Nat) : Int))) ∧ d = δ4 t c3 c4) (js_if (p := false) (δ1 := δv 3) (jt_not (p := true) (jt_val (je_allC (xs := List.range 3) (b := fun _ => true) m2 rfl (jn_lcG (own := [("_law_far", 3)]) (xs := (List.range 3).map fun (i : Nat) => aI (i : Int)) (δ1 := δw 0) δv (fun n => (List.range n).map fun _ => PyData.bool true) (ji_range (n := 3) m1 je_int ⟨by decide, by decide⟩) rfl rfl (fun j A2 hA2 => ?_) rfl c_hand.nd (blkOk_by (N := N_hand) (sc := defScope s_hand) (by decide +kernel)))))) (fun z => by cases z) fun _ => jb_nil ⟨tn 3, none, some (.val (aD (encW x))), (tnok 3 (by omega)).mono (by omega), rfl⟩) fun δ' h => jb_nil h
    have hj : j < 3 := by
      have := (List.getElem?_eq_some_iff.mp hA2).1
      simpa using this
    rw [List.getElem?_map, List.getElem?_range hj] at hA2
    cases hA2
    refine ⟨[3], δt j, δt j, true, by decide, fun s0 H1 Cc cl fp => jg_of (gn_mk c_hand.nd rfl (by first | exact .inl rfl | exact .inr rfl) (by first | exact .inr rfl | exact .inl rfl) s0 H1 Cc cl fp), fun _ _ _ _ _ => jts_nil, fun _ => ⟨δ4 (tn (j + 1)) (some (.val (aI (j : Int)))) (some (.val (aD (encW x)))), .bool true, fun _ _ _ _ _ => je_callM (As := [aD (encW x), aI (j : Int)]) (M0 := mTin a T (tn j)) (M := mTin a T (tn j)) (M' := mTin a T (tn (j + 1))) (δ1 := δt j) 0 (C2 x.1 nmx) hr (Nat.le_refl _) (ja_cons (je_v 4) (ja_cons (je_v 3) ja_nil)) rfl rfl ⟨a, T, tn j, x.2, j, hP, ok, tl, tsub, by omega, (tnok j (by omega)).mono (by omega), rfl, rfl, rfl, rfl⟩, rfl, ?_⟩, fun z => by cases z⟩
    rw [List.range_succ, List.map_append]
    rfl
  · subst e
    exact jb_ret je_bl (fun _ _ h => h) ⟨t, rfl⟩
end
end J
/-! The law's def. -/
namespace J
open PySem PySem.Spec L2
section
variable {P : Program} {w : World} {K : PySem.W.Frag} {mg : Str → Option Value} {base : Heap} {f : Addr} {fd : FuncData} {k : Nat}
abbrev s_law : Stmt := topS 67
abbrev N_law : List Str := ["_law_script", "_law_cells_here", "_law_k"]
theorem c_law : FnScope N_law ["_law_script"] (defScope s_law) := ⟨rfl, rfl, rfl, by decide +kernel, rfl, by decide +kernel, by decide +kernel⟩
def R_law (K : PySem.W.Frag) (P0 : Addr) : RlM := fun M M' As Z => ∃ (v0 : V) (T : List Addr) (ns : List Int), P0 ∈ T ∧ M = mTb v0 T (aSq K ns) ∧ M' = mTb v0 T (aSq K ns) ∧ As = [] ∧ Z = some (aB true)
theorem notT_isL {ds : List PyData} : ∀ (B : Hp) (o : HO), isL ds B o → NotT o := fun B o ⟨vs, e, _⟩ => by subst e; exact (fun xs z => nomatch z)
theorem f_law {C : Value} {P0 : Addr} (F : Fun K "law" "law" s_law f fd) (C1 : CalT P w K mg base k "_law_by_hand_right" P0 (aB true)) (C2 : Cal P w K mg base k "_law_cells" (R_cells K)) (C3 : CalN P w K mg base k "_law_box" R_box) (C4 : CalM CX0 P w K mg base k "_law_right" C (R_right P0)) (m1 : mg "all" = none) (m2 : mg "range" = none) (m3 : mg "len" = none) : FnOk P w K mg base CX0 (k + 1) f fd ["_law_script"] (spM C (R_law K P0)) := by
  refine fn_jM F c_law (fun M M' As Z ⟨v0, T, ns, _, e1, e2, e3, e4⟩ => ⟨by rw [e3]; rfl, by rw [e4]; exact (fun z => nomatch z), by rw [e2, e1]; exact mTb_prec⟩) fun cdv A outer s0 H0 E M M' As Z hr ⟨v0, T, ns, hP, e1, e2, e3, e4⟩ => ?_
  subst e2 e1 e3
  cases e4
  obtain ⟨l1, l2⟩ := cells_len ns
  obtain ⟨vs, hvs⟩ : ∃ vs, vs = cellsM ns := ⟨_, rfl⟩
  rw [← hvs] at l1 l2
  let δi : Option Cell → Option Cell → DSt := fun c1 c2 => [some (.mut (mTb v0 T (aSq K ns))), c1, c2]
  refine jb_ifR (p := false) (δ1 := δi none none) (jt_not (p := true) (jt_val (je_call0T (T := T) (M := mTb v0 T (aSq K ns)) 0 C1 hr (Nat.le_refl _) rfl lnd_Tb hP))) (fun z => by cases z) fun _ => ?_
  refine jb_set (δ1 := δi none none) (A := aD (.list (vs.map .int))) 1 c_law.nd (je_call C2 hr (Nat.le_refl _) (ja_cons (je_vM (A := aSq K ns) (M := mTb v0 T (aSq K ns)) 0 rfl fun B H v R h => h.2.2.1) (ja_cons je_int ja_nil)) ⟨ns, rfl, by rw [hvs]⟩) ?_
  let δ0 : DSt := δi (some (.val (aD (.list (vs.map .int))))) none
  refine jb_ret (A := aB true) (δ1 := δ0) (JE.eq (je_allC (δ1 := δ0) (xs := List.range vs.length) (b := fun _ => true) m1 rfl (jn_m (δ1 := δ0) 2 (List.range vs.length) (fun i => PyData.int (i : Int)) (fun _ => PyData.bool true) (JI.eq (ji_range (n := (vs.length : Int)) m2 (JE.eq (je_lenL (ds := vs.map .int) m3 (je_v 1)) (by rw [List.length_map])) ⟨by omega, by omega⟩) (by rw [Int.toNat_natCast])) (blkOk_by (N := N_law) (sc := defScope s_law) (by decide +kernel)) (fun i hi _ _ _ _ _ => ?_) rfl c_law.nd)) ?_) (fun _ _ h => h) rfl
  · have hi2 := List.mem_range.mp hi
    refine je_callNT (M := mTb v0 T (aSq K ns)) (T := T) (t := boxM vs[i] i) (g := fun _ => rightM 6 (boxM vs[i] i)) 0 C4 hr (Nat.le_refl _) (JN.to (jn_callN (As := [aD (.list (vs.map .int)), aI (i : Int)]) (Rn := isL [.int (boxM vs[i] i).g, .int (boxM vs[i] i).k, .int (boxM vs[i] i).c]) notT_isL C3 hr (Nat.le_refl _) (ja_cons (je_v 1) (ja_cons (je_v 2) ja_nil)) ⟨vs, i, vs[i], List.getElem?_eq_getElem hi2, by omega, rfl, rfl⟩) fun _ _ h => h) rfl lnd_Tb fun a => ⟨a, T, _, hP, (box_ok _ (by omega)).mono (by omega), rfl, rfl, rfl, rfl⟩
  · congr 1
    rw [List.all_eq_true]
    exact fun _ _ => rfl
end
end J
/-! The tower: what the top has left, and each def's promise over it. -/
namespace J
open PySem PySem.Spec L2
theorem CalN.mono {P : Program} {w : World} {K : PySem.W.Frag} {mg : Str → Option Value} {base : Heap} {j k : Nat} {x : Str} {R : RlN} (C : CalN P w K mg base j x R) (h : j ≤ k) : CalN P w K mg base k x R := by
  obtain ⟨f, fd, ps, h1, h2, h3, h4⟩ := C.ex
  exact ⟨f, fd, ps, h1.mono h, h2, h3, h4⟩
theorem CalT.mono {P : Program} {w : World} {K : PySem.W.Frag} {mg : Str → Option Value} {base : Heap} {j k : Nat} {x : Str} {P0 : Addr} {Z : AV} (C : CalT P w K mg base j x P0 Z) (h : j ≤ k) : CalT P w K mg base k x P0 Z := by
  obtain ⟨f, fd, h1, h2, h3, h4⟩ := C.ex
  exact ⟨f, fd, h1.mono h, h2, h3, h4⟩
structure Has (K : PySem.W.Frag) (mg : Str → Option Value) (g x : Str) (st : Stmt) : Prop where
  ex : ∃ f fd, Fun K x x st f fd ∧ mg g = some (.ref f)
structure Tops (K : PySem.W.Frag) (mg : Str → Option Value) : Prop where
  d4 : Has K mg "is_number" "is_number" (topS 4)
  d5 : Has K mg "is_name" "is_name" (topS 5)
  d6 : Has K mg "tupled" "tupled" (topS 6)
  d7 : Has K mg "rises" "rises" (topS 7)
  d8 : Has K mg "set_of" "set_of" (topS 8)
  d9 : Has K mg "is_name_set" "is_name_set" (topS 9)
  d11 : Has K mg "is_word" "is_word" (topS 11)
  d12 : Has K mg "names" "names" (topS 12)
  d13 : Has K mg "parts" "parts" (topS 13)
  d14 : Has K mg "is_forest" "is_forest" (topS 14)
  d16 : Has K mg "table_of" "table_of" (topS 16)
  d17 : Has K mg "short_walks" "short_walks" (topS 17)
  d18 : Has K mg "events" "events" (topS 18)
  d21 : Has K mg "meet" "meet" (topS 21)
  d22 : Has K mg "to_part" "to_part" (topS 22)
  d23 : Has K mg "common_of" "common_of" (topS 23)
  d24 : Has K mg "family_from_bits" "family_from" (topS 24)
  d26 : Has K mg "meeting_family" "meeting_family" (topS 26)
  d27 : Has K mg "has_bits" "has_bits" (topS 27)
  d28 : Has K mg "parts_two" "parts_two" (topS 28)
  d29 : Has K mg "is_cut" "is_cut" (topS 29)
  d30 : Has K mg "is_cut_list" "is_cut_list" (topS 30)
  d31 : Has K mg "bits_by" "bits_by" (topS 31)
  d32 : Has K mg "all_cuts" "all_cuts" (topS 32)
  d33 : Has K mg "cuts_from" "cuts_from" (topS 33)
  d35 : Has K mg "few_cuts" "few_cuts" (topS 35)
  d36 : Has K mg "fewest_cuts" "fewest_cuts" (topS 36)
  d37 : Has K mg "some_cuts" "some_cuts" (topS 37)
  d40 : Has K mg "words_in" "words_in" (topS 40)
  d41 : Has K mg "choices" "choices" (topS 41)
  d42 : Has K mg "a_reader" "a_reader" (topS 42)
  d43 : Has K mg "is_told" "is_told" (topS 43)
  d44 : Has K mg "wrongly_told" "wrongly_told" (topS 44)
  d45 : Has K mg "is_reader" "is_reader" (topS 45)
  d47 : Has K mg "values_of" "values_of" (topS 47)
  d48 : Has K mg "masks_of" "masks_of" (topS 48)
  d49 : Has K mg "shared" "shared" (topS 49)
  d50 : Has K mg "family_from_right" "family_from" (topS 50)
  d52 : Has K mg "bare_family" "bare_family" (topS 52)
  d53 : Has K mg "is_right" "is_right" (topS 53)
  d55 : Has K mg "_law_box" "_law_box" (topS 55)
  d56 : Has K mg "_law_take" "_law_take" (topS 56)
  d57 : Has K mg "_law_cells" "_law_cells" (topS 57)
  d58 : Has K mg "_law_pick" "_law_pick" (topS 58)
  d59 : Has K mg "_law_same" "_law_same" (topS 59)
  d60 : Has K mg "_law_web" "_law_web" (topS 60)
  d61 : Has K mg "_law_read" "_law_read" (topS 61)
  d62 : Has K mg "_law_told" "_law_told" (topS 62)
  d63 : Has K mg "_law_cuts" "_law_cuts" (topS 63)
  d64 : Has K mg "_law_case_right" "_law_case_right" (topS 64)
  d65 : Has K mg "_law_by_hand_right" "_law_by_hand_right" (topS 65)
  d66 : Has K mg "_law_right" "_law_right" (topS 66)
  d67 : Has K mg "law" "law" (topS 67)
  n_abs : mg "abs" = none
  n_all : mg "all" = none
  n_any : mg "any" = none
  n_bool : mg "bool" = none
  n_dict : mg "dict" = none
  n_enumerate : mg "enumerate" = none
  n_int : mg "int" = none
  n_isinstance : mg "isinstance" = none
  n_len : mg "len" = none
  n_list : mg "list" = none
  n_min : mg "min" = none
  n_range : mg "range" = none
  n_set : mg "set" = none
  n_sorted : mg "sorted" = none
  n_str : mg "str" = none
  n_tuple : mg "tuple" = none
  n_zip : mg "zip" = none
  kL : ∃ t, mg "LETTERS" = some (.str lettersS t)
  kT : ∃ t, mg "TWO" = some (.int 2 t)
  kP : ∃ t, mg "PAIR" = some (.int 2 t)
section
variable {P : Program} {w : World} {K : PySem.W.Frag} {mg : Str → Option Value} {base : Heap} {nm : Nat → Str} {f : Addr} {fd : FuncData} {P0 CA c : Addr}
theorem bd4 (F : Fun K "is_number" "is_number" (topS 4) f fd) : Binds K fd ["thing"] [] := F.binds fun _ _ _ _ _ _ us hl => match us, hl with | [_], _ => rfl
theorem bd5 (F : Fun K "is_name" "is_name" (topS 5) f fd) : Binds K fd ["thing"] [] := F.binds fun _ _ _ _ _ _ us hl => match us, hl with | [_], _ => rfl
theorem bd6 (F : Fun K "tupled" "tupled" (topS 6) f fd) : Binds K fd ["thing"] [] := F.binds fun _ _ _ _ _ _ us hl => match us, hl with | [_], _ => rfl
theorem bd7 (F : Fun K "rises" "rises" (topS 7) f fd) : Binds K fd ["thing"] [] := F.binds fun _ _ _ _ _ _ us hl => match us, hl with | [_], _ => rfl
theorem bd8 (F : Fun K "set_of" "set_of" (topS 8) f fd) : Binds K fd ["things"] [] := F.binds fun _ _ _ _ _ _ us hl => match us, hl with | [_], _ => rfl
theorem bd9 (F : Fun K "is_name_set" "is_name_set" (topS 9) f fd) : Binds K fd ["thing"] [] := F.binds fun _ _ _ _ _ _ us hl => match us, hl with | [_], _ => rfl
theorem bd11 (F : Fun K "is_word" "is_word" (topS 11) f fd) : Binds K fd ["sizes", "thing"] [] := F.binds fun _ _ _ _ _ _ us hl => match us, hl with | [_, _], _ => rfl
theorem bd12 (F : Fun K "names" "names" (topS 12) f fd) : Binds K fd ["chart"] [] := F.binds fun _ _ _ _ _ _ us hl => match us, hl with | [_], _ => rfl
theorem bd13 (F : Fun K "parts" "parts" (topS 13) f fd) : Binds K fd ["chart"] [] := F.binds fun _ _ _ _ _ _ us hl => match us, hl with | [_], _ => rfl
theorem bd14 (F : Fun K "is_forest" "is_forest" (topS 14) f fd) : Binds K fd ["chart"] [] := F.binds fun _ _ _ _ _ _ us hl => match us, hl with | [_], _ => rfl
theorem bd16 (F : Fun K "table_of" "table_of" (topS 16) f fd) : Binds K fd ["chart"] [] := F.binds fun _ _ _ _ _ _ us hl => match us, hl with | [_], _ => rfl
theorem bd17 (F : Fun K "short_walks" "short_walks" (topS 17) f fd) : Binds K fd ["chart", "long"] [] := F.binds fun _ _ _ _ _ _ us hl => match us, hl with | [_, _], _ => rfl
theorem bd18 (F : Fun K "events" "events" (topS 18) f fd) : Binds K fd ["chart", "long"] [] := F.binds fun _ _ _ _ _ _ us hl => match us, hl with | [_, _], _ => rfl
theorem bd21 (F : Fun K "meet" "meet" (topS 21) f fd) : Binds K fd ["one", "other"] [] := F.binds fun _ _ _ _ _ _ us hl => match us, hl with | [_, _], _ => rfl
theorem bd22 (F : Fun K "to_part" "to_part" (topS 22) f fd) : Binds K fd ["chart", "long"] [] := F.binds fun _ _ _ _ _ _ us hl => match us, hl with | [_, _], _ => rfl
theorem bd23 (F : Fun K "common_of" "common_of" (topS 23) f fd) : Binds K fd ["family"] [] := F.binds fun _ _ _ _ _ _ us hl => match us, hl with | [_], _ => rfl
theorem bd24 (F : Fun K "family_from" "family_from" (topS 24) f fd) : Binds K fd ["every", "family", "left"] [] := F.binds fun _ _ _ _ _ _ us hl => match us, hl with | [_, _, _], _ => rfl
theorem bd26 (F : Fun K "meeting_family" "meeting_family" (topS 26) f fd) : Binds K fd ["chart", "long"] [] := F.binds fun _ _ _ _ _ _ us hl => match us, hl with | [_, _], _ => rfl
theorem bd27 (F : Fun K "has_bits" "has_bits" (topS 27) f fd) : Binds K fd ["chart", "long"] [] := F.binds fun _ _ _ _ _ _ us hl => match us, hl with | [_, _], _ => rfl
theorem bd28 (F : Fun K "parts_two" "parts_two" (topS 28) f fd) : Binds K fd ["cut", "pair"] [] := F.binds fun _ _ _ _ _ _ us hl => match us, hl with | [_, _], _ => rfl
theorem bd29 (F : Fun K "is_cut" "is_cut" (topS 29) f fd) : Binds K fd ["known", "thing"] [] := F.binds fun _ _ _ _ _ _ us hl => match us, hl with | [_, _], _ => rfl
theorem bd30 (F : Fun K "is_cut_list" "is_cut_list" (topS 30) f fd) : Binds K fd ["chart", "long", "thing"] [] := F.binds fun _ _ _ _ _ _ us hl => match us, hl with | [_, _, _], _ => rfl
theorem bd31 (F : Fun K "bits_by" "bits_by" (topS 31) f fd) : Binds K fd ["chart", "cuts"] [] := F.binds fun _ _ _ _ _ _ us hl => match us, hl with | [_, _], _ => rfl
theorem bd32 (F : Fun K "all_cuts" "all_cuts" (topS 32) f fd) : Binds K fd ["chart"] [] := F.binds fun _ _ _ _ _ _ us hl => match us, hl with | [_], _ => rfl
theorem bd33 (F : Fun K "cuts_from" "cuts_from" (topS 33) f fd) : Binds K fd ["every", "pairs", "left"] [] := F.binds fun _ _ _ _ _ _ us hl => match us, hl with | [_, _, _], _ => rfl
theorem bd34 (F : Fun K "hardest_first" "hardest_first" (topS 34) f fd) : Binds K fd ["pairs"] [] := F.binds fun _ _ _ _ _ _ us hl => match us, hl with | [_], _ => rfl
theorem bd35 (F : Fun K "few_cuts" "few_cuts" (topS 35) f fd) : Binds K fd ["chart", "long"] [] := F.binds fun _ _ _ _ _ _ us hl => match us, hl with | [_, _], _ => rfl
theorem bd36 (F : Fun K "fewest_cuts" "fewest_cuts" (topS 36) f fd) : Binds K fd ["chart", "long"] [] := F.binds fun _ _ _ _ _ _ us hl => match us, hl with | [_, _], _ => rfl
theorem bd37 (F : Fun K "some_cuts" "some_cuts" (topS 37) f fd) : Binds K fd ["chart", "long"] [] := F.binds fun _ _ _ _ _ _ us hl => match us, hl with | [_, _], _ => rfl
theorem bd40 (F : Fun K "words_in" "words_in" (topS 40) f fd) : Binds K fd ["told", "some"] [] := F.binds fun _ _ _ _ _ _ us hl => match us, hl with | [_, _], _ => rfl
theorem bd41 (F : Fun K "choices" "choices" (topS 41) f fd) : Binds K fd ["chart", "long"] [] := F.binds fun _ _ _ _ _ _ us hl => match us, hl with | [_, _], _ => rfl
theorem bd42 (F : Fun K "a_reader" "a_reader" (topS 42) f fd) : Binds K fd ["chart", "long"] [] := F.binds fun _ _ _ _ _ _ us hl => match us, hl with | [_, _], _ => rfl
theorem bd43 (F : Fun K "is_told" "is_told" (topS 43) f fd) : Binds K fd ["chart", "thing"] [] := F.binds fun _ _ _ _ _ _ us hl => match us, hl with | [_, _], _ => rfl
theorem bd44 (F : Fun K "wrongly_told" "wrongly_told" (topS 44) f fd) : Binds K fd ["chart", "long", "reader"] [] := F.binds fun _ _ _ _ _ _ us hl => match us, hl with | [_, _, _], _ => rfl
theorem bd45 (F : Fun K "is_reader" "is_reader" (topS 45) f fd) : Binds K fd ["chart", "long", "thing"] [] := F.binds fun _ _ _ _ _ _ us hl => match us, hl with | [_, _, _], _ => rfl
theorem bd47 (F : Fun K "values_of" "values_of" (topS 47) f fd) : Binds K fd ["chart"] [] := F.binds fun _ _ _ _ _ _ us hl => match us, hl with | [_], _ => rfl
theorem bd48 (F : Fun K "masks_of" "masks_of" (topS 48) f fd) : Binds K fd ["chart", "some"] [] := F.binds fun _ _ _ _ _ _ us hl => match us, hl with | [_, _], _ => rfl
theorem bd49 (F : Fun K "shared" "shared" (topS 49) f fd) : Binds K fd ["one", "other"] [] := F.binds fun _ _ _ _ _ _ us hl => match us, hl with | [_, _], _ => rfl
theorem bd50 (F : Fun K "family_from" "family_from" (topS 50) f fd) : Binds K fd ["rows", "common", "masks", "picked", "left"] [] := F.binds fun _ _ _ _ _ _ us hl => match us, hl with | [_, _, _, _, _], _ => rfl
theorem bd52 (F : Fun K "bare_family" "bare_family" (topS 52) f fd) : Binds K fd ["chart", "long"] [] := F.binds fun _ _ _ _ _ _ us hl => match us, hl with | [_, _], _ => rfl
theorem bd53 (F : Fun K "is_right" "is_right" (topS 53) f fd) : Binds K fd ["chart", "long"] [] := F.binds fun _ _ _ _ _ _ us hl => match us, hl with | [_, _], _ => rfl
theorem bd55 (F : Fun K "_law_box" "_law_box" (topS 55) f fd) : Binds K fd ["_law_script", "_law_k"] [] := F.binds fun _ _ _ _ _ _ us hl => match us, hl with | [_, _], _ => rfl
theorem bd56 (F : Fun K "_law_take" "_law_take" (topS 56) f fd) : Binds K fd ["_law_tin", "_law_top_so"] [] := F.binds fun _ _ _ _ _ _ us hl => match us, hl with | [_, _], _ => rfl
theorem bd57 (F : Fun K "_law_cells" "_law_cells" (topS 57) f fd) : Binds K fd ["_law_script", "_law_most"] [] := F.binds fun _ _ _ _ _ _ us hl => match us, hl with | [_, _], _ => rfl
theorem bd58 (F : Fun K "_law_pick" "_law_pick" (topS 58) f fd) : Binds K fd ["_law_tin", "_law_pool", "_law_size_so"] [] := F.binds fun _ _ _ _ _ _ us hl => match us, hl with | [_, _, _], _ => rfl
theorem bd59 (F : Fun K "_law_same" "_law_same" (topS 59) f fd) : Binds K fd ["_law_got", "_law_due"] [] := F.binds fun _ _ _ _ _ _ us hl => match us, hl with | [_, _], _ => rfl
theorem bd60 (F : Fun K "_law_web" "_law_web" (topS 60) f fd) : Binds K fd ["_law_tin", "_law_many", "_law_fields", "_law_most", "_law_ties_so"] [] := F.binds fun _ _ _ _ _ _ us hl => match us, hl with | [_, _, _, _, _], _ => rfl
theorem bd61 (F : Fun K "_law_read" "_law_read" (topS 61) f fd) : Binds K fd ["_law_web_here", "_law_far"] [] := F.binds fun _ _ _ _ _ _ us hl => match us, hl with | [_, _], _ => rfl
theorem bd62 (F : Fun K "_law_told" "_law_told" (topS 62) f fd) : Binds K fd ["_law_web_here", "_law_far"] [] := F.binds fun _ _ _ _ _ _ us hl => match us, hl with | [_, _], _ => rfl
theorem bd63 (F : Fun K "_law_cuts" "_law_cuts" (topS 63) f fd) : Binds K fd ["_law_tin", "_law_web_here"] [] := F.binds fun _ _ _ _ _ _ us hl => match us, hl with | [_, _], _ => rfl
theorem bd64 (F : Fun K "_law_case_right" "_law_case_right" (topS 64) f fd) : Binds K fd ["_law_tin", "_law_web_here", "_law_far"] [] := F.binds fun _ _ _ _ _ _ us hl => match us, hl with | [_, _, _], _ => rfl
theorem bd65 (F : Fun K "_law_by_hand_right" "_law_by_hand_right" (topS 65) f fd) : Binds K fd [] [] := F.binds fun _ _ _ _ _ _ us hl => match us, hl with | [], _ => rfl
theorem bd66 (F : Fun K "_law_right" "_law_right" (topS 66) f fd) : Binds K fd ["_law_tin"] [] := F.binds fun _ _ _ _ _ _ us hl => match us, hl with | [_], _ => rfl
theorem bd67 (F : Fun K "law" "law" (topS 67) f fd) : Binds K fd ["_law_script"] [] := F.binds fun _ _ _ _ _ _ us hl => match us, hl with | [_], _ => rfl
abbrev Hard (K : PySem.W.Frag) (mg : Str → Option Value) (c : Addr) : Prop := ∃ f fd, Fun K "hardest_first" "hardest_first" (topS 34) f fd ∧ mg "hardest_first" = some (.ref f) ∧ fd.code = .ref c
theorem tower (H : NamX nm) (T : Tops K mg) (X : ExcF K mg CA) (hard : Hard K mg c) (TB : LamX.TabB base mg c P0) : CalM CX0 P w K mg base 22 "_law_case_right" (.ref CA) (R_case nm P0) ∧ Cal P w K mg base 10 "has_bits" (R_hasb nm) := by
  obtain ⟨_, hLETTERS⟩ := T.kL
  obtain ⟨_, hTWO⟩ := T.kT
  obtain ⟨_, hPAIR⟩ := T.kP
  have c_isnum : Cal P w K mg base 1 "is_number" R_isnum := by
    obtain ⟨f, fd, F, g⟩ := T.d4.ex
    exact ⟨f, fd, _, f_isnum (k := 0) F T.n_isinstance T.n_int T.n_bool, g, F.kp, bd4 F⟩
  have c_isname : Cal P w K mg base 1 "is_name" R_isname := by
    obtain ⟨f, fd, F, g⟩ := T.d5.ex
    exact ⟨f, fd, _, f_isname (k := 0) F T.n_isinstance T.n_str T.n_len T.n_all hLETTERS, g, F.kp, bd5 F⟩
  have c_rises : Cal P w K mg base 1 "rises" R_rises := by
    obtain ⟨f, fd, F, g⟩ := T.d7.ex
    exact ⟨f, fd, _, f_rises (k := 0) F T.n_all T.n_zip, g, F.kp, bd7 F⟩
  have c_setof : Cal P w K mg base 1 "set_of" R_setof := by
    obtain ⟨f, fd, F, g⟩ := T.d8.ex
    exact ⟨f, fd, _, f_setof (k := 0) F T.n_tuple T.n_sorted T.n_set, g, F.kp, bd8 F⟩
  have c_setofF : Cal P w K mg base 1 "set_of" R_setofF := by
    obtain ⟨f, fd, F, g⟩ := T.d8.ex
    exact ⟨f, fd, _, f_setofF (k := 0) F T.n_tuple T.n_sorted T.n_set, g, F.kp, bd8 F⟩
  have c_tupled : ∀ n, n ≤ 4 → Cal P w K mg base 5 "tupled" (R_tupled n) := fun n hn => by
    obtain ⟨f, fd, F, g⟩ := T.d6.ex
    exact ⟨f, fd, _, (f_tupled (k := 0) F g F.kp (bd6 F) T.n_isinstance T.n_list T.n_tuple n).mono (by omega), g, F.kp, bd6 F⟩
  have c_isnames : Cal P w K mg base 2 "is_name_set" R_isnames := by
    obtain ⟨f, fd, F, g⟩ := T.d9.ex
    exact ⟨f, fd, _, f_isnames (k := 1) F (c_isname.mono (by decide)) (c_rises.mono (by decide)) T.n_isinstance T.n_tuple T.n_all, g, F.kp, bd9 F⟩
  have c_isword : Cal P w K mg base 2 "is_word" R_isword := by
    obtain ⟨f, fd, F, g⟩ := T.d11.ex
    exact ⟨f, fd, _, f_isword (k := 1) F (c_isnum.mono (by decide)) T.n_isinstance T.n_tuple T.n_all T.n_len T.n_zip, g, F.kp, bd11 F⟩
  have c_names : Cal P w K mg base 6 "names" (R_names nm) := by
    obtain ⟨f, fd, F, g⟩ := T.d12.ex
    exact ⟨f, fd, _, f_names (k := 5) F ((c_tupled 4 (by decide)).mono (by decide)) T.n_tuple, g, F.kp, bd12 F⟩
  have c_parts : Cal P w K mg base 7 "parts" (R_parts nm) := by
    obtain ⟨f, fd, F, g⟩ := T.d13.ex
    exact ⟨f, fd, _, f_parts (k := 6) H F ((c_tupled 4 (by decide)).mono (by decide)) (c_names.mono (by decide)) (c_setof.mono (by decide)) T.n_list T.n_len T.n_tuple, g, F.kp, bd13 F⟩
  have c_forest : Cal P w K mg base 8 "is_forest" (R_forest nm) := by
    obtain ⟨f, fd, F, g⟩ := T.d14.ex
    exact ⟨f, fd, _, f_forest (k := 7) F ((c_tupled 4 (by decide)).mono (by decide)) (c_names.mono (by decide)) (c_parts.mono (by decide)) T.n_len, g, F.kp, bd14 F⟩
  have c_table : Cal P w K mg base 2 "table_of" (R_table nm) := by
    obtain ⟨f, fd, F, g⟩ := T.d16.ex
    exact ⟨f, fd, _, f_table (k := 1) H F (c_setof.mono (by decide)), g, F.kp, bd16 F⟩
  have c_walks : Cal P w K mg base 7 "short_walks" (R_walks nm) := by
    obtain ⟨f, fd, F, g⟩ := T.d17.ex
    exact ⟨f, fd, _, f_walks (k := 6) H F (c_names.mono (by decide)) (c_table.mono (by decide)) T.n_list T.n_range, g, F.kp, bd17 F⟩
  have c_events : Cal P w K mg base 8 "events" (R_events nm) := by
    obtain ⟨f, fd, F, g⟩ := T.d18.ex
    exact ⟨f, fd, _, f_events (k := 7) H F (c_walks.mono (by decide)) (c_setof.mono (by decide)), g, F.kp, bd18 F⟩
  have c_meet : Cal P w K mg base 1 "meet" (R_meet nm) := by
    obtain ⟨f, fd, F, g⟩ := T.d21.ex
    exact ⟨f, fd, _, f_meet (k := 0) H.toNam F T.n_any, g, F.kp, bd21 F⟩
  have c_common : Cal P w K mg base 1 "common_of" (R_common nm) := by
    obtain ⟨f, fd, F, g⟩ := T.d23.ex
    exact ⟨f, fd, _, f_common (k := 0) H.toNam F T.n_all T.n_tuple, g, F.kp, bd23 F⟩
  have c_topart : Cal P w K mg base 9 "to_part" (R_topart nm) := by
    obtain ⟨f, fd, F, g⟩ := T.d22.ex
    exact ⟨f, fd, _, f_topart (k := 8) H F (c_events.mono (by decide)) (c_meet.mono (by decide)) T.n_enumerate, g, F.kp, bd22 F⟩
  have c_fam : ∀ n, n ≤ 3 → Cal P w K mg base 5 "family_from_bits" (R_fam nm n) := fun n hn => by
    obtain ⟨f, fd, F, g⟩ := T.d24.ex
    exact ⟨f, fd, _, (f_fam (k := 1) H F g F.kp (bd24 F) (c_common.mono (by decide)) (c_meet.mono (by decide)) T.n_len T.n_all n).mono (by omega), g, F.kp, bd24 F⟩
  have c_mfam : Cal P w K mg base 9 "meeting_family" (R_mfam nm) := by
    obtain ⟨f, fd, F, g⟩ := T.d26.ex
    exact ⟨f, fd, _, f_mfam (k := 8) H F (c_events.mono (by decide)) (fun n hn => (c_fam n hn).mono (by decide)) T.n_tuple T.n_sorted, g, F.kp, bd26 F⟩
  have c_hasb : Cal P w K mg base 10 "has_bits" (R_hasb nm) := by
    obtain ⟨f, fd, F, g⟩ := T.d27.ex
    exact ⟨f, fd, _, f_hasb (k := 9) F (c_mfam.mono (by decide)), g, F.kp, bd27 F⟩
  have c_parts2 : Cal P w K mg base 1 "parts_two" (R_parts2 nm) := by
    obtain ⟨f, fd, F, g⟩ := T.d28.ex
    exact ⟨f, fd, _, f_parts2 (k := 0) H F T.n_any T.n_all, g, F.kp, bd28 F⟩
  have c_iscut : Cal P w K mg base 3 "is_cut" (R_iscut nm) := by
    obtain ⟨f, fd, F, g⟩ := T.d29.ex
    exact ⟨f, fd, _, f_iscut (k := 2) H F (c_isnames.mono (by decide)) T.n_all, g, F.kp, bd29 F⟩
  have c_iscutl : Cal P w K mg base 10 "is_cut_list" (R_iscutl nm) := by
    obtain ⟨f, fd, F, g⟩ := T.d30.ex
    exact ⟨f, fd, _, f_iscutl (k := 9) H F (c_names.mono (by decide)) (c_iscut.mono (by decide)) (c_rises.mono (by decide)) (c_parts2.mono (by decide)) (c_topart.mono (by decide)) T.n_isinstance T.n_tuple T.n_all T.n_any, g, F.kp, bd30 F⟩
  have c_bits : Cal P w K mg base 6 "bits_by" (R_bits nm) := by
    obtain ⟨f, fd, F, g⟩ := T.d31.ex
    exact ⟨f, fd, _, f_bits (k := 5) H F ((c_tupled 4 (by decide)).mono (by decide)) T.n_tuple T.n_int hTWO, g, F.kp, bd31 F⟩
  have c_allc : Cal P w K mg base 7 "all_cuts" (R_allc nm) := by
    obtain ⟨f, fd, F, g⟩ := T.d32.ex
    exact ⟨f, fd, _, f_allc (k := 6) H F (c_names.mono (by decide)), g, F.kp, bd32 F⟩
  have c_cutsf : ∀ n, n ≤ 16 → Cal P w K mg base 18 "cuts_from" (R_cutsf nm n) := fun n hn => by
    obtain ⟨f, fd, F, g⟩ := T.d33.ex
    exact ⟨f, fd, _, (f_cutsf (k := 1) H F g F.kp (bd33 F) (c_parts2.mono (by decide)) T.n_len n).mono (by omega), g, F.kp, bd33 F⟩
  have c_hard : CalM CX0 P w K mg base 2 "hardest_first" (.ref CA) (R_hard nm P0) := by
    obtain ⟨f, fd, F, g, hcd⟩ := hard
    exact ⟨f, fd, _, f_hard (k := 0) H F hcd TB T.n_sorted T.n_len, g, F.kp, bd34 F⟩
  have c_few : CalM CX0 P w K mg base 19 "few_cuts" (.ref CA) (R_few nm P0) := by
    obtain ⟨f, fd, F, g⟩ := T.d35.ex
    exact ⟨f, fd, _, f_few (k := 18) H F (c_hasb.mono (by decide)) (c_allc.mono (by decide)) (c_hard.mono (by decide)) (c_topart.mono (by decide)) (fun n hn => (c_cutsf n hn).mono (by decide)) T.n_tuple T.n_sorted, g, F.kp, bd35 F⟩
  have c_fewest : CalM CX0 P w K mg base 20 "fewest_cuts" (.ref CA) (R_fewest nm P0) := by
    obtain ⟨f, fd, F, g⟩ := T.d36.ex
    exact ⟨f, fd, _, f_fewest (k := 19) F (c_few.mono (by decide)) T.n_len, g, F.kp, bd36 F⟩
  have c_some : CalM (L2.CX P w) P w K mg base 20 "some_cuts" (.ref CA) (R_some nm P0) := by
    obtain ⟨f, fd, F, g⟩ := T.d37.ex
    exact ⟨f, fd, _, f_some (k := 19) F X (c_few.mono (by decide)) (c_names.mono (by decide)) T.n_len, g, F.kp, bd37 F⟩
  have c_words : Cal P w K mg base 2 "words_in" (R_words nm) := by
    obtain ⟨f, fd, F, g⟩ := T.d40.ex
    exact ⟨f, fd, _, f_words (k := 1) H F (c_setof.mono (by decide)) T.n_zip, g, F.kp, bd40 F⟩
  have c_choices : Cal P w K mg base 9 "choices" (R_choices nm) := by
    obtain ⟨f, fd, F, g⟩ := T.d41.ex
    exact ⟨f, fd, _, f_choices (k := 8) H F ((c_tupled 4 (by decide)).mono (by decide)) (c_events.mono (by decide)) (c_words.mono (by decide)) T.n_dict, g, F.kp, bd41 F⟩
  have c_aread : CalM (L2.CX P w) P w K mg base 10 "a_reader" (.ref CA) (R_aread nm) := by
    obtain ⟨f, fd, F, g⟩ := T.d42.ex
    exact ⟨f, fd, _, f_aread (k := 9) H F X (c_choices.mono (by decide)) T.n_tuple T.n_sorted, g, F.kp, bd42 F⟩
  have c_istold : Cal P w K mg base 7 "is_told" (R_istold nm) := by
    obtain ⟨f, fd, F, g⟩ := T.d43.ex
    exact ⟨f, fd, _, f_istold (k := 6) H F (c_isword.mono (by decide)) (c_names.mono (by decide)) T.n_isinstance T.n_tuple T.n_len T.n_str hPAIR, g, F.kp, bd43 F⟩
  have c_wrong : Cal P w K mg base 9 "wrongly_told" (R_wrong nm) := by
    obtain ⟨f, fd, F, g⟩ := T.d44.ex
    exact ⟨f, fd, _, f_wrong (k := 8) H F ((c_tupled 4 (by decide)).mono (by decide)) (c_events.mono (by decide)) (c_words.mono (by decide)) T.n_dict T.n_sorted, g, F.kp, bd44 F⟩
  have c_isread : Cal P w K mg base 10 "is_reader" (R_isread nm) := by
    obtain ⟨f, fd, F, g⟩ := T.d45.ex
    exact ⟨f, fd, _, f_isread (k := 9) H F (c_istold.mono (by decide)) (c_rises.mono (by decide)) (c_wrong.mono (by decide)) T.n_isinstance T.n_tuple T.n_all T.n_len, g, F.kp, bd45 F⟩
  have c_vals : Cal P w K mg base 6 "values_of" (R_vals nm) := by
    obtain ⟨f, fd, F, g⟩ := T.d47.ex
    exact ⟨f, fd, _, f_vals (k := 5) F ((c_tupled 4 (by decide)).mono (by decide)) (c_setofF.mono (by decide)) T.n_zip, g, F.kp, bd47 F⟩
  have c_masks : Cal P w K mg base 7 "masks_of" (R_masks nm) := by
    obtain ⟨f, fd, F, g⟩ := T.d48.ex
    exact ⟨f, fd, _, f_masks (k := 6) H F ((c_tupled 4 (by decide)).mono (by decide)) (c_vals.mono (by decide)) T.n_dict T.n_enumerate, g, F.kp, bd48 F⟩
  have c_shared : Cal P w K mg base 1 "shared" R_shared := by
    obtain ⟨f, fd, F, g⟩ := T.d49.ex
    exact ⟨f, fd, _, f_shared (k := 0) F T.n_zip, g, F.kp, bd49 F⟩
  have c_famr : ∀ n, n ≤ 3 → Cal P w K mg base 5 "family_from_right" (R_famr nm n) := fun n hn => by
    obtain ⟨f, fd, F, g⟩ := T.d50.ex
    exact ⟨f, fd, _, (f_famr (k := 1) H F g F.kp (bd50 F) (c_shared.mono (by decide)) T.n_len n).mono (by omega), g, F.kp, bd50 F⟩
  have c_bare : Cal P w K mg base 9 "bare_family" (R_bare nm) := by
    obtain ⟨f, fd, F, g⟩ := T.d52.ex
    exact ⟨f, fd, _, f_bare (k := 8) H F (c_events.mono (by decide)) (c_masks.mono (by decide)) (fun n hn => (c_famr n hn).mono (by decide)) T.n_enumerate T.n_list, g, F.kp, bd52 F⟩
  have c_isright : Cal P w K mg base 10 "is_right" (R_isright nm) := by
    obtain ⟨f, fd, F, g⟩ := T.d53.ex
    exact ⟨f, fd, _, f_isright (k := 9) F (c_bare.mono (by decide)), g, F.kp, bd53 F⟩
  have c_take : CalM CX0 P w K mg base 1 "_law_take" (.ref CA) R_take := by
    obtain ⟨f, fd, F, g⟩ := T.d56.ex
    exact ⟨f, fd, _, f_take (k := 0) F T.n_int, g, F.kp, bd56 F⟩
  have c_told : CalM CX0 P w K mg base 21 "_law_told" (.ref CA) (R_told nm P0) := by
    obtain ⟨f, fd, F, g⟩ := T.d62.ex
    exact ⟨f, fd, _, f_told (k := 20) F X (c_some.mono (by decide)), g, F.kp, bd62 F⟩
  have c_read : CalM CX0 P w K mg base 11 "_law_read" (.ref CA) (R_read nm) := by
    obtain ⟨f, fd, F, g⟩ := T.d61.ex
    exact ⟨f, fd, _, f_read (k := 10) F X (c_aread.mono (by decide)) (c_isread.mono (by decide)), g, F.kp, bd61 F⟩
  have c_cuts : CalM CX0 P w K mg base 7 "_law_cuts" (.ref CA) (R_cuts nm) := by
    obtain ⟨f, fd, F, g⟩ := T.d63.ex
    exact ⟨f, fd, _, f_cuts (k := 6) H F (c_take.mono (by decide)) (c_names.mono (by decide)) T.n_tuple T.n_range T.n_set T.n_sorted, g, F.kp, bd63 F⟩
  have c_case : CalM CX0 P w K mg base 22 "_law_case_right" (.ref CA) (R_case nm P0) := by
    obtain ⟨f, fd, F, g⟩ := T.d64.ex
    exact ⟨f, fd, _, f_case (k := 21) H F ⟨c_hasb.mono (by decide), c_fewest.mono (by decide), c_told.mono (by decide), c_mfam.mono (by decide), c_forest.mono (by decide), c_bits.mono (by decide), c_iscutl.mono (by decide), c_isright.mono (by decide), c_read.mono (by decide), c_topart.mono (by decide), c_cuts.mono (by decide)⟩ T.n_len, g, F.kp, bd64 F⟩
  exact ⟨c_case, c_hasb⟩
theorem law_ok (T : Tops K mg) (X : ExcF K mg CA) (hard : Hard K mg c) (TB : LamX.TabB base mg c P0) (F : Fun K "law" "law" (topS 67) f fd) : FnOk P w K mg base CX0 24 f fd ["_law_script"] (spM (.ref CA) (R_law K P0)) := by
  obtain ⟨c_caseS, _⟩ := tower (P := P) (w := w) (base := base) namS T X hard TB
  obtain ⟨c_caseL, c_hasL⟩ := tower (P := P) (w := w) (base := base) namL T X hard TB
  obtain ⟨c_caseP, c_hasP⟩ := tower (P := P) (w := w) (base := base) namP T X hard TB
  have c_take : CalM CX0 P w K mg base 1 "_law_take" (.ref CA) R_take := by
    obtain ⟨f, fd, F, g⟩ := T.d56.ex
    exact ⟨f, fd, _, f_take (k := 0) F T.n_int, g, F.kp, bd56 F⟩
  have c_pick : CalM CX0 P w K mg base 2 "_law_pick" (.ref CA) (R_pick nmS) := by
    obtain ⟨f, fd, F, g⟩ := T.d58.ex
    exact ⟨f, fd, _, f_pick (k := 1) F (c_take.mono (by decide)) T.n_list T.n_len T.n_min T.n_range, g, F.kp, bd58 F⟩
  have c_web : CalM CX0 P w K mg base 3 "_law_web" (.ref CA) R_web := by
    obtain ⟨f, fd, F, g⟩ := T.d60.ex
    exact ⟨f, fd, _, f_web (k := 2) F (c_take.mono (by decide)) (c_pick.mono (by decide)) T.n_tuple T.n_range T.n_enumerate T.n_min T.n_len T.n_sorted, g, F.kp, bd60 F⟩
  have c_box : CalN P w K mg base 1 "_law_box" R_box := by
    obtain ⟨f, fd, F, g⟩ := T.d55.ex
    exact ⟨f, fd, _, f_box (k := 0) F T.n_len T.n_abs T.n_int, g, F.kp, bd55 F⟩
  have c_cells : Cal P w K mg base 1 "_law_cells" (R_cells K) := by
    obtain ⟨f, fd, F, g⟩ := T.d57.ex
    exact ⟨f, fd, _, f_cells (k := 0) F T.n_list T.n_enumerate T.n_int, g, F.kp, bd57 F⟩
  have c_same : ∀ n, n ≤ 2 → Cal P w K mg base 3 "_law_same" (R_same n) := fun n hn => by
    obtain ⟨f, fd, F, g⟩ := T.d59.ex
    exact ⟨f, fd, _, (f_same (k := 0) F g F.kp (bd59 F) T.n_isinstance T.n_list T.n_tuple T.n_dict T.n_bool T.n_str T.n_len T.n_all T.n_zip n).mono (by omega), g, F.kp, bd59 F⟩
  have c_right : CalM CX0 P w K mg base 23 "_law_right" (.ref CA) (R_right P0) := by
    obtain ⟨f, fd, F, g⟩ := T.d66.ex
    exact ⟨f, fd, _, f_right (k := 22) F (c_caseS.mono (by decide)) (c_web.mono (by decide)) (c_take.mono (by decide)) T.n_range, g, F.kp, bd66 F⟩
  have c_hand : CalT P w K mg base 23 "_law_by_hand_right" P0 (aB true) := by
    obtain ⟨f, fd, F, g⟩ := T.d65.ex
    exact ⟨f, fd, f_hand (k := 22) F (fun nm e => by
      rcases e with rfl | rfl
      · exact c_hasL.mono (by decide)
      · exact c_hasP.mono (by decide)) (fun nm e => by
      rcases e with rfl | rfl
      · exact c_caseL.mono (by decide)
      · exact c_caseP.mono (by decide)) ((c_same 2 (by decide)).mono (by decide)) T.n_range T.n_all, g, F.kp, bd65 F⟩
  exact f_law (k := 23) F (c_hand.mono (by decide)) (c_cells.mono (by decide)) (c_box.mono (by decide)) (c_right.mono (by decide)) T.n_all T.n_range T.n_len
end
end J
/-! What the walk of the law's row asks. -/
namespace J
open PySem PySem.Spec L2
/-- without the tables -/
def noTbl (H : Hp) : Hp := fun b => match H b with | some (.tbl _) => none | x => x
theorem noTbl_same {H : Hp} : Same (noTbl H) H := fun b x h => by
  unfold noTbl at h
  split at h
  · cases h
  · exact h
theorem noTbl_of {H : Hp} {b : Addr} {x : HO} (h : H b = some x) (n : ∀ ps, x ≠ .tbl ps) : noTbl H b = some x := by
  unfold noTbl
  rw [h]
  split
  · rename_i q
    cases q
    exact absurd rfl (n _)
  · rfl
theorem law_sp {K : PySem.W.Frag} {H : Hp} {a P0 : Addr} {C : Value} {ns : List Int} (hl : ns.length ≤ 63) (hT : H P0 = some (.tbl #[])) (hS : SqL K H a (ns.map V.int)) : spM C (R_law K P0) [.ref a] H (fun v _ => v = .bl true) fun _ _ _ => False := by
  have hB : noTbl H P0 = none := by unfold noTbl; rw [hT]
  refine ⟨noTbl H, mTb (.ref a) [P0] (aSq K ns), mTb (.ref a) [P0] (aSq K ns), [], some (aB true), .ref a, [], [P0], rfl, ⟨noTbl_same, fun b xs h => noTbl_of h fun ps z => nomatch z⟩, ⟨rfl, rfl, ⟨a, rfl, ?_, small (by omega)⟩, fun P hP => ?_⟩, fun b hb => ?_, .nil, ⟨.ref a, [P0], ns, List.mem_singleton.mpr rfl, rfl, rfl, rfl, rfl⟩, fun v B' H' Z' e _ _ _ _ _ z => ?_, fun d B' H' e => by cases e⟩
  · rcases hS with (h | ⟨o, h⟩) | h
    · exact .inl (.inl (noTbl_of h fun ps z => nomatch z))
    · exact .inl (.inr ⟨o, noTbl_of h fun ps z => nomatch z⟩)
    · exact .inr h
  · cases List.mem_singleton.mp hP
    exact ⟨#[], hT, trivial, fun pos cv h => nomatch h⟩
  · cases List.mem_singleton.mp hb
    exact ⟨hB, (by rw [hT]; exact (fun z => nomatch z)), fun xs => (by rw [hT]; exact (fun z => nomatch z))⟩
  · cases e
    exact Dd.bl_eq z
theorem at_end {w : World} {K : PySem.W.Frag} {mg : Str → Option Value} {h : Heap} {fa c P0 CA : Addr} (KX : K.In h) (T : Tops K mg) (hard : Hard K mg c) (X : ExcF K mg CA) (hT : h.get? P0 = some (PySem.W.tabObj #[])) (nT : K.lookup P0 = none) (hc : PySem.W.codeHdIn K c P0 = true) (hmg : mg "law" = some (.ref fa)) :
    LamX.LawAtS PySem.Challenge.rw_oldornew_k55_whole_bits_that_are_right w K CX0 24 63 "_law_script" mg fa h := by
  obtain ⟨f, fd, F, g⟩ := T.d67.ex
  cases hmg.symm.trans g
  have one : ∀ {R : Addr × Addr → Prop}, R (c, P0) → ∀ p ∈ [(c, P0)], R p := fun r p hp => by cases List.mem_singleton.mp hp; exact r
  refine ⟨fd, [(c, P0)], spM (.ref CA) (R_law K P0), one hT, one nT, one (PySem.W.codeHd_of_K KX hc), fun s u => ?_, fun H a ns hl _ hH hS => law_sp hl (hH _ (List.mem_singleton.mpr rfl)) hS, fun base _ _ TB => law_ok T X hard (TB _ (List.mem_singleton.mpr rfl)) F⟩
  obtain ⟨oc, od, kV, doc, pm, an, cdv, ct, osl, rfl, lk, hcd⟩ := F.ex
  exact .of_eq rfl
section
variable {K : PySem.W.Frag} {h : Heap} {mg : Str → Option Value} {g x : Str} {st : Stmt} {f : Addr} {oc : Value} {od an : Option Addr} {osl : Array (Option Value)} {kV doc pm cdv ct : Value}
theorem has_mk (KX : K.In h) (G : h.Ns mainGlobals mg) (a : PySem.W.nsIn K mainGlobals g = some (some (.ref f))) (l : K.lookup f = some ⟨oc, od, .func (PySem.W.fnOf x x (defArgs st) (defBody st) (defScope st) .none kV doc pm an cdv ct), osl⟩) (c : PySem.W.codeIn K cdv x = true) (k : PySem.W.keepIn K (.ref f) = true) : Has K mg g x st :=
  ⟨f, _, fun_mk l c k, PySem.W.mg_of KX G a⟩
theorem letters_mk {u : Str} {t : Tok} (KX : K.In h) (G : h.Ns mainGlobals mg) (e : PySem.W.nsIn K mainGlobals "LETTERS" = some (some (.str u t))) (q : u = lettersS) : ∃ t, mg "LETTERS" = some (.str lettersS t) := ⟨t, by
  subst q
  exact PySem.W.mg_of KX G e⟩
theorem int_mk {i : Int} {t : Tok} (KX : K.In h) (G : h.Ns mainGlobals mg) (e : PySem.W.nsIn K mainGlobals x = some (some (.int i t))) : ∃ t, mg x = some (.int i t) := ⟨t, PySem.W.mg_of KX G e⟩
theorem hard_mk {q : Addr} (KX : K.In h) (G : h.Ns mainGlobals mg) (a : PySem.W.nsIn K mainGlobals "hardest_first" = some (some (.ref f))) (l : K.lookup f = some ⟨oc, od, .func (PySem.W.fnOf "hardest_first" "hardest_first" (defArgs (topS 34)) (defBody (topS 34)) (defScope (topS 34)) .none kV doc pm an (.ref q) ct), osl⟩) (c : PySem.W.codeIn K (.ref q) "hardest_first" = true) (k : PySem.W.keepIn K (.ref f) = true) : Hard K mg q :=
  ⟨f, _, fun_mk l c k, PySem.W.mg_of KX G a, rfl⟩
end
end J
open PySem PySem.W PyProof.Rows
theorem PySem.Challenge.cw_oldornew_k55_whole_bits_that_are_right_holds : PySem.Challenge.rw_oldornew_k55_whole_bits_that_are_right.Holds := by
  w_on; o_law; k_head; (case hw => w_witness2)
  k_fill
  refine LamX.walk_ofTs (l := PySem.Challenge.rw_oldornew_k55_whole_bits_that_are_right) (n := 63) (k := 24) (x := "_law_script") (CX := fun _ => L2.CX0) rfl (by decide) rfl ⟨rfl, by decide, by decide⟩ (fun w h Y => km_in_of Y) ?F (fun _ _ _ _ _ z => z)
  case F =>
    intro w mg fa h Y KX G hmg
    refine' J.at_end KX ⟨?d4, ?d5, ?d6, ?d7, ?d8, ?d9, ?d11, ?d12, ?d13, ?d14, ?d16, ?d17, ?d18, ?d21, ?d22, ?d23, ?d24, ?d26, ?d27, ?d28, ?d29, ?d30, ?d31, ?d32, ?d33, ?d35, ?d36, ?d37, ?d40, ?d41, ?d42, ?d43, ?d44, ?d45, ?d47, ?d48, ?d49, ?d50, ?d52, ?d53, ?d55, ?d56, ?d57, ?d58, ?d59, ?d60, ?d61, ?d62, ?d63, ?d64, ?d65, ?d66, ?d67, ?n_abs, ?n_all, ?n_any, ?n_bool, ?n_dict, ?n_enumerate, ?n_int, ?n_isinstance, ?n_len, ?n_list, ?n_min, ?n_range, ?n_set, ?n_sorted, ?n_str, ?n_tuple, ?n_zip, ?kL, ?kT, ?kP⟩ ?hard ?X ?eT ?eN ?eC hmg
    (case eT => exact km_tabs_of Y _ (List.mem_cons_self ..))
    (case hard => refine' J.hard_mk KX G ?a ?l ?c ?k; (case a => k_is); (case l => k_is); (case c => k_is); (case k => k_is))
    (case X => refine' ⟨?x1, mg_of KX G ?x2, ?x3, ?x4, ?x5, exm_ref ?x6 ?x7 ?x8 ?x9⟩; (case x2 => k_is); (case x1 => k_exc); (case x3 => k_is); (case x4 => k_is); (case x5 => k_is); (case x6 => k_is); (case x7 => k_is); (case x8 => k_is); (case x9 => k_is))
    (case kL => refine' J.letters_mk KX G ?eL ?qL; (case eL => k_is); (case qL => kernel_rfl))
    (case kT => refine' J.int_mk KX G ?eT; (case eT => k_is))
    (case kP => refine' J.int_mk KX G ?eP; (case eP => k_is))
    (case eC => kernel_rfl)
    (case eN => kernel_rfl)
    (case n_abs => exact mg_none_of KX G (by k_is))
    (case n_all => exact mg_none_of KX G (by k_is))
    (case n_any => exact mg_none_of KX G (by k_is))
    (case n_bool => exact mg_none_of KX G (by k_is))
    (case n_dict => exact mg_none_of KX G (by k_is))
    (case n_enumerate => exact mg_none_of KX G (by k_is))
    (case n_int => exact mg_none_of KX G (by k_is))
    (case n_isinstance => exact mg_none_of KX G (by k_is))
    (case n_len => exact mg_none_of KX G (by k_is))
    (case n_list => exact mg_none_of KX G (by k_is))
    (case n_min => exact mg_none_of KX G (by k_is))
    (case n_range => exact mg_none_of KX G (by k_is))
    (case n_set => exact mg_none_of KX G (by k_is))
    (case n_sorted => exact mg_none_of KX G (by k_is))
    (case n_str => exact mg_none_of KX G (by k_is))
    (case n_tuple => exact mg_none_of KX G (by k_is))
    (case n_zip => exact mg_none_of KX G (by k_is))
    (case d4 => refine' J.has_mk KX G ?a ?l ?c ?k; (case a => k_is); (case l => k_is); (case c => k_is); (case k => k_is))
    (case d5 => refine' J.has_mk KX G ?a ?l ?c ?k; (case a => k_is); (case l => k_is); (case c => k_is); (case k => k_is))
    (case d6 => refine' J.has_mk KX G ?a ?l ?c ?k; (case a => k_is); (case l => k_is); (case c => k_is); (case k => k_is))
    (case d7 => refine' J.has_mk KX G ?a ?l ?c ?k; (case a => k_is); (case l => k_is); (case c => k_is); (case k => k_is))
    (case d8 => refine' J.has_mk KX G ?a ?l ?c ?k; (case a => k_is); (case l => k_is); (case c => k_is); (case k => k_is))
    (case d9 => refine' J.has_mk KX G ?a ?l ?c ?k; (case a => k_is); (case l => k_is); (case c => k_is); (case k => k_is))
    (case d11 => refine' J.has_mk KX G ?a ?l ?c ?k; (case a => k_is); (case l => k_is); (case c => k_is); (case k => k_is))
    (case d12 => refine' J.has_mk KX G ?a ?l ?c ?k; (case a => k_is); (case l => k_is); (case c => k_is); (case k => k_is))
    (case d13 => refine' J.has_mk KX G ?a ?l ?c ?k; (case a => k_is); (case l => k_is); (case c => k_is); (case k => k_is))
    (case d14 => refine' J.has_mk KX G ?a ?l ?c ?k; (case a => k_is); (case l => k_is); (case c => k_is); (case k => k_is))
    (case d16 => refine' J.has_mk KX G ?a ?l ?c ?k; (case a => k_is); (case l => k_is); (case c => k_is); (case k => k_is))
    (case d17 => refine' J.has_mk KX G ?a ?l ?c ?k; (case a => k_is); (case l => k_is); (case c => k_is); (case k => k_is))
    (case d18 => refine' J.has_mk KX G ?a ?l ?c ?k; (case a => k_is); (case l => k_is); (case c => k_is); (case k => k_is))
    (case d21 => refine' J.has_mk KX G ?a ?l ?c ?k; (case a => k_is); (case l => k_is); (case c => k_is); (case k => k_is))
    (case d22 => refine' J.has_mk KX G ?a ?l ?c ?k; (case a => k_is); (case l => k_is); (case c => k_is); (case k => k_is))
    (case d23 => refine' J.has_mk KX G ?a ?l ?c ?k; (case a => k_is); (case l => k_is); (case c => k_is); (case k => k_is))
    (case d24 => refine' J.has_mk KX G ?a ?l ?c ?k; (case a => k_is); (case l => k_is); (case c => k_is); (case k => k_is))
    (case d26 => refine' J.has_mk KX G ?a ?l ?c ?k; (case a => k_is); (case l => k_is); (case c => k_is); (case k => k_is))
    (case d27 => refine' J.has_mk KX G ?a ?l ?c ?k; (case a => k_is); (case l => k_is); (case c => k_is); (case k => k_is))
    (case d28 => refine' J.has_mk KX G ?a ?l ?c ?k; (case a => k_is); (case l => k_is); (case c => k_is); (case k => k_is))
    (case d29 => refine' J.has_mk KX G ?a ?l ?c ?k; (case a => k_is); (case l => k_is); (case c => k_is); (case k => k_is))
    (case d30 => refine' J.has_mk KX G ?a ?l ?c ?k; (case a => k_is); (case l => k_is); (case c => k_is); (case k => k_is))
    (case d31 => refine' J.has_mk KX G ?a ?l ?c ?k; (case a => k_is); (case l => k_is); (case c => k_is); (case k => k_is))
    (case d32 => refine' J.has_mk KX G ?a ?l ?c ?k; (case a => k_is); (case l => k_is); (case c => k_is); (case k => k_is))
    (case d33 => refine' J.has_mk KX G ?a ?l ?c ?k; (case a => k_is); (case l => k_is); (case c => k_is); (case k => k_is))
    (case d35 => refine' J.has_mk KX G ?a ?l ?c ?k; (case a => k_is); (case l => k_is); (case c => k_is); (case k => k_is))
    (case d36 => refine' J.has_mk KX G ?a ?l ?c ?k; (case a => k_is); (case l => k_is); (case c => k_is); (case k => k_is))
    (case d37 => refine' J.has_mk KX G ?a ?l ?c ?k; (case a => k_is); (case l => k_is); (case c => k_is); (case k => k_is))
    (case d40 => refine' J.has_mk KX G ?a ?l ?c ?k; (case a => k_is); (case l => k_is); (case c => k_is); (case k => k_is))
    (case d41 => refine' J.has_mk KX G ?a ?l ?c ?k; (case a => k_is); (case l => k_is); (case c => k_is); (case k => k_is))
    (case d42 => refine' J.has_mk KX G ?a ?l ?c ?k; (case a => k_is); (case l => k_is); (case c => k_is); (case k => k_is))
    (case d43 => refine' J.has_mk KX G ?a ?l ?c ?k; (case a => k_is); (case l => k_is); (case c => k_is); (case k => k_is))
    (case d44 => refine' J.has_mk KX G ?a ?l ?c ?k; (case a => k_is); (case l => k_is); (case c => k_is); (case k => k_is))
    (case d45 => refine' J.has_mk KX G ?a ?l ?c ?k; (case a => k_is); (case l => k_is); (case c => k_is); (case k => k_is))
    (case d47 => refine' J.has_mk KX G ?a ?l ?c ?k; (case a => k_is); (case l => k_is); (case c => k_is); (case k => k_is))
    (case d48 => refine' J.has_mk KX G ?a ?l ?c ?k; (case a => k_is); (case l => k_is); (case c => k_is); (case k => k_is))
    (case d49 => refine' J.has_mk KX G ?a ?l ?c ?k; (case a => k_is); (case l => k_is); (case c => k_is); (case k => k_is))
    (case d50 => refine' J.has_mk KX G ?a ?l ?c ?k; (case a => k_is); (case l => k_is); (case c => k_is); (case k => k_is))
    (case d52 => refine' J.has_mk KX G ?a ?l ?c ?k; (case a => k_is); (case l => k_is); (case c => k_is); (case k => k_is))
    (case d53 => refine' J.has_mk KX G ?a ?l ?c ?k; (case a => k_is); (case l => k_is); (case c => k_is); (case k => k_is))
    (case d55 => refine' J.has_mk KX G ?a ?l ?c ?k; (case a => k_is); (case l => k_is); (case c => k_is); (case k => k_is))
    (case d56 => refine' J.has_mk KX G ?a ?l ?c ?k; (case a => k_is); (case l => k_is); (case c => k_is); (case k => k_is))
    (case d57 => refine' J.has_mk KX G ?a ?l ?c ?k; (case a => k_is); (case l => k_is); (case c => k_is); (case k => k_is))
    (case d58 => refine' J.has_mk KX G ?a ?l ?c ?k; (case a => k_is); (case l => k_is); (case c => k_is); (case k => k_is))
    (case d59 => refine' J.has_mk KX G ?a ?l ?c ?k; (case a => k_is); (case l => k_is); (case c => k_is); (case k => k_is))
    (case d60 => refine' J.has_mk KX G ?a ?l ?c ?k; (case a => k_is); (case l => k_is); (case c => k_is); (case k => k_is))
    (case d61 => refine' J.has_mk KX G ?a ?l ?c ?k; (case a => k_is); (case l => k_is); (case c => k_is); (case k => k_is))
    (case d62 => refine' J.has_mk KX G ?a ?l ?c ?k; (case a => k_is); (case l => k_is); (case c => k_is); (case k => k_is))
    (case d63 => refine' J.has_mk KX G ?a ?l ?c ?k; (case a => k_is); (case l => k_is); (case c => k_is); (case k => k_is))
    (case d64 => refine' J.has_mk KX G ?a ?l ?c ?k; (case a => k_is); (case l => k_is); (case c => k_is); (case k => k_is))
    (case d65 => refine' J.has_mk KX G ?a ?l ?c ?k; (case a => k_is); (case l => k_is); (case c => k_is); (case k => k_is))
    (case d66 => refine' J.has_mk KX G ?a ?l ?c ?k; (case a => k_is); (case l => k_is); (case c => k_is); (case k => k_is))
    (case d67 => refine' J.has_mk KX G ?a ?l ?c ?k; (case a => k_is); (case l => k_is); (case c => k_is); (case k => k_is))
